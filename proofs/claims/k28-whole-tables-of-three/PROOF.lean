import PyProof.Rows.All
import Wide.All
import OpenK.AllK
import Wide.FinOn
import HandS.ForMost
import HandS.Star
import KE.GoesEnum
import KE.KItemsList
import HandS.IsInst
import HandS.TupAny
import HandS.Walk
import KE.KTupSum
import KE.KEqDeep
import PySem.Challenge.RW_leastmoved_k28_whole_tables_of_three
set_option Elab.async false
set_option linter.all false
set_option maxRecDepth 100000
set_option maxHeartbeats 8000000
/-! zip of three tuples, to ANY target (a name too: the tuple that was handed out may still be held, so the iterator may or may not use its own one again; either way a new tuple comes). -/
namespace LmZ
open PySem
open PySem.Sem (wp)

abbrev zo (f0 : Value) (f : Bool) (TI TO : Addr) : Obj := { cls := .type "zip", dict := none, data := .fields #[f0, .bool f, .bool false, .ref TI, .ref TO], slots := #[] }
/-- no tuple is out, or one that once was handed out -/
def Out (f0 : Value) : Prop := f0 = .none ∨ ∃ T : Nat, f0 = rawInt T
structure Ap (z TI TO i1 i2 i3 l1 l2 l3 : Addr) : Prop where
  Iz : TI ≠ z
  Oz : TO ≠ z
  IO : TI ≠ TO
  I1 : TI ≠ i1
  I2 : TI ≠ i2
  I3 : TI ≠ i3
  O1 : TO ≠ i1
  O2 : TO ≠ i2
  O3 : TO ≠ i3
  z1 : z ≠ i1
  z2 : z ≠ i2
  z3 : z ≠ i3
  d12 : i1 ≠ i2
  d13 : i1 ≠ i3
  d23 : i2 ≠ i3
  lz : ∀ l, (l = l1 ∨ l = l2 ∨ l = l3) → l ≠ z ∧ l ≠ TO ∧ l ≠ i1 ∧ l ≠ i2 ∧ l ≠ i3

section
variable {prog : Program} {w : World} {A : Around} {E : Value → Shared → Prop} {s : Shared}
theorem alive {a : Addr} {Q : Option Obj → Shared → Prop} (h : Q (s.heap.get? a) s) : wpAny (model prog w) A (loadIfAlive a) Q E s := fun _ _ _ => h

theorem isFree {z TI TO : Addr} {f0 : Value} {f : Bool} {Q : Bool → Shared → Prop} (hz : s.heap.get? z = some (zo f0 f TI TO)) (hf : Out f0) (h1 : Q true s)
    (h2 : ∀ h', h'.get? z = some (zo f0 true TI TO) → Heap.SameBut z s.heap h' → Q false { s with heap := h' }) : wpAny (model prog w) A (Builtin.SmallTypes.ownedTupleIsFree (.ref z)) Q E s := by
  unfold Builtin.SmallTypes.ownedTupleIsFree
  refine wpAny_bind (wpAny_field hz rfl (x := f0) rfl ?_)
  rcases hf with rfl | ⟨T, rfl⟩
  · exact wpAny_pure h1
  · show wpAny _ _ (loadIfAlive ((T : Int).toNat) >>= _) _ _ _
    refine wpAny_bind (alive ?_)
    cases hT : s.heap.get? ((T : Int).toNat) with
    | none =>
      simp only [Option.isNone_none, if_true]
      exact wpAny_pure h1
    | some o =>
      simp only [Option.isNone_some, Bool.false_eq_true, if_false]
      refine wpAny_bind (wpAny_field hz rfl (x := .bool f) rfl ?_)
      cases f with
      | true =>
        rw [if_neg (show ¬ ((Value.bool true != Value.bool true) = true) from Bool.false_ne_true)]
        exact wpAny_pure (h2 s.heap hz (Heap.SameBut.refl _ _))
      | false =>
        rw [if_pos (show (Value.bool false != Value.bool true) = true from rfl)]
        exact wpAny_bind (wpAny_setField_rec hz (by simp) fun h' hz' hs' => wpAny_pure (h2 h' hz' hs'))

/-- the step ahead of the store, whatever the target is -/
theorem goes {tg : Expr} {z TI TO T : Addr} {f0 : Value} {f : Bool} {Q : Unit → Shared → Prop} (hz : s.heap.get? z = some (zo f0 f TI TO)) (hf : Out f0)
    (h : ∀ h' g0, Out g0 → h'.get? z = some (zo g0 f TI TO) → Heap.SameBut z s.heap h' → Q () { s with heap := h' }) : wpAny (model prog w) A (letOwnedTupleGo tg (.ref z) (.ref T)) Q E s := by
  have stay : wpAny (model prog w) A (pure ()) Q E s := wpAny_pure (h s.heap f0 hf hz (Heap.SameBut.refl _ _))
  unfold letOwnedTupleGo
  cases tg <;> first
    | exact stay
    | (refine wpAny_bind (wpAny_load hz ?_)
       dsimp only
       split
       · refine wpAny_bind (wpAny_rule ?_)
         show wpAny _ _ (setField (.ref z) 0 .none) Q E s
         exact wpAny_setField_rec hz (by simp) fun h' hz' hs' => h h' .none (.inl rfl) hz' hs'
       · exact stay)

variable {z TI TO i1 i2 i3 l1 l2 l3 : Addr} {f0 a1 a2 a3 : Value} {f : Bool} {k : Nat} {xs ys us : Array Value}
theorem next_item {x y u : Value} {Q : Value → Shared → Prop} (D : Ap z TI TO i1 i2 i3 l1 l2 l3) (hz : s.heap.get? z = some (zo f0 f TI TO)) (hf : Out f0)
    (hI : IsTupOf3 s.heap TI (.ref i1) (.ref i2) (.ref i3)) (hO : IsTupOf3 s.heap TO a1 a2 a3)
    (h1 : s.heap.IsTupleIter i1 l1 k) (h2 : s.heap.IsTupleIter i2 l2 k) (h3 : s.heap.IsTupleIter i3 l3 k) (g1 : s.heap.IsTuple l1 xs) (g2 : s.heap.IsTuple l2 ys) (g3 : s.heap.IsTuple l3 us)
    (hx : xs[k]? = some x) (hy : ys[k]? = some y) (hu : us[k]? = some u)
    (hQ : ∀ h' g0 g, Out g0 → h'.get? z = some (zo g0 g TI TO) → (∃ b1 b2 b3, IsTupOf3 h' TO b1 b2 b3) → h'.IsTupleIter i1 l1 (k + 1) → h'.IsTupleIter i2 l2 (k + 1) → h'.IsTupleIter i3 l3 (k + 1) →
      IsTupOf3 h' s.heap.objs.size x y u → h'.objs.size = s.heap.objs.size + 1 →
      (∀ c o, c ≠ z → c ≠ TO → c ≠ i1 → c ≠ i2 → c ≠ i3 → s.heap.get? c = some o → h'.get? c = some o) → Q (.ref s.heap.objs.size) { s with heap := h' }) :
    wpAny (model prog w) A (Builtin.«zip.__next__» ⟨[.ref z], []⟩) (fun fin s' => ∃ v, fin = .done (.ret v) ∧ Q v s') E s := by
  have c1 := D.lz l1 (.inl rfl)
  have c2 := D.lz l2 (.inr (.inl rfl))
  have c3 := D.lz l3 (.inr (.inr rfl))
  show wpAny _ _ (field (.ref z) 2 >>= _) _ _ _
  refine wpAny_bind (wpAny_field hz rfl (x := .bool false) rfl ?_)
  show wpAny _ _ (field (.ref z) 3 >>= _) _ _ _
  refine wpAny_bind (wpAny_field hz rfl (x := .ref TI) rfl ?_)
  refine wpAny_bind (wpAny_seqItems hI rfl ?_)
  show wpAny _ _ (Builtin.SmallTypes.ownedTupleIsFree (.ref z) >>= _) _ _ _
  refine wpAny_bind (isFree hz hf ?_ fun p0 hz0 hs0 => ?_)
  · -- its own tuple is free
    simp only [if_true]
    refine wpAny_bind (wpAny_rule ?_)
    refine wpAny_bind (wpAny_field hz rfl (x := .ref TO) rfl ?_)
    refine wpAny_bind (wpAny_setField_rec hz (by simp) fun p0 hz0 hs0 => ?_)
    replace hz0 : p0.get? z = some (zo .ellipsis f TI TO) := hz0
    have n1 : p0.IsTupleIter i1 l1 k := h1.extBut hs0.extBut D.z1.symm
    have n2 : p0.IsTupleIter i2 l2 k := h2.extBut hs0.extBut D.z2.symm
    have n3 : p0.IsTupleIter i3 l3 k := h3.extBut hs0.extBut D.z3.symm
    have m1 : p0.IsTuple l1 xs := g1.extBut hs0.extBut c1.1
    have m2 : p0.IsTuple l2 ys := g2.extBut hs0.extBut c2.1
    have m3 : p0.IsTuple l3 us := g3.extBut hs0.extBut c3.1
    have o0 : IsTupOf3 p0 TO a1 a2 a3 := hs0.extBut _ _ D.Oz hO
    refine wpAny_bind ?_
    simp only [List.zipIdx_cons, List.zipIdx_nil, List.forIn_cons, List.forIn_nil]
    refine wpAny_bind (wpAny_bind (wpAny_onRaise ?_))
    show wpAny _ _ (Builtin.SmallTypes.nextOf (.ref i1) >>= _) _ _ _
    refine wpAny_bind (wpAny_nextOf_tuple_item (s := { s with heap := p0 }) n1 m1 hx fun p1 r1 t1 => wpAny_pure ?_)
    replace t1 : Heap.SameBut i1 p0 p1 := t1
    have o1 : IsTupOf3 p1 TO a1 a2 a3 := t1.extBut _ _ D.O1 o0
    refine wpAny_bind (wpAny_seqItems (s := { s with heap := p1 }) o1 rfl ?_)
    refine wpAny_bind (updateSeq_IsTupOf3 (s := { s with heap := p1 }) o1 fun q1 e1 b1 => ?_)
    replace e1 : IsTupOf3 q1 TO x a2 a3 := e1
    replace b1 : Heap.SameBut TO p1 q1 := b1
    refine wpAny_bind (wpAny_letGo (wpAny_pure ?_))
    refine wpAny_bind (wpAny_bind (wpAny_onRaise ?_))
    show wpAny _ _ (Builtin.SmallTypes.nextOf (.ref i2) >>= _) _ _ _
    refine wpAny_bind (wpAny_nextOf_tuple_item (s := { s with heap := q1 }) ((n2.extBut t1.extBut D.d12.symm).extBut b1.extBut D.O2.symm) ((m2.extBut t1.extBut c2.2.2.1).extBut b1.extBut c2.2.1) hy fun p2 r2 t2 => wpAny_pure ?_)
    replace t2 : Heap.SameBut i2 q1 p2 := t2
    have o2 : IsTupOf3 p2 TO x a2 a3 := t2.extBut _ _ D.O2 e1
    refine wpAny_bind (wpAny_seqItems (s := { s with heap := p2 }) o2 rfl ?_)
    refine wpAny_bind (updateSeq_IsTupOf3 (s := { s with heap := p2 }) o2 fun q2 e2 b2 => ?_)
    replace e2 : IsTupOf3 q2 TO x y a3 := e2
    replace b2 : Heap.SameBut TO p2 q2 := b2
    refine wpAny_bind (wpAny_letGo (wpAny_pure ?_))
    refine wpAny_bind (wpAny_bind (wpAny_onRaise ?_))
    show wpAny _ _ (Builtin.SmallTypes.nextOf (.ref i3) >>= _) _ _ _
    refine wpAny_bind (wpAny_nextOf_tuple_item (s := { s with heap := q2 }) ((((n3.extBut t1.extBut D.d13.symm).extBut b1.extBut D.O3.symm).extBut t2.extBut D.d23.symm).extBut b2.extBut D.O3.symm)
      ((((m3.extBut t1.extBut c3.2.2.1).extBut b1.extBut c3.2.1).extBut t2.extBut c3.2.2.2.1).extBut b2.extBut c3.2.1) hu fun p3 r3 t3 => wpAny_pure ?_)
    replace t3 : Heap.SameBut i3 q2 p3 := t3
    have o3 : IsTupOf3 p3 TO x y a3 := t3.extBut _ _ D.O3 e2
    refine wpAny_bind (wpAny_seqItems (s := { s with heap := p3 }) o3 rfl ?_)
    refine wpAny_bind (updateSeq_IsTupOf3 (s := { s with heap := p3 }) o3 fun q3 e3 b3 => ?_)
    replace e3 : IsTupOf3 q3 TO x y u := e3
    replace b3 : Heap.SameBut TO p3 q3 := b3
    refine wpAny_bind (wpAny_letGo (wpAny_pure (wpAny_pure ?_)))
    refine wpAny_bind (wpAny_seqItems (s := { s with heap := q3 }) e3 rfl ?_)
    refine wpAny_bind (wpAny_newTuple ?_)
    have sz : q3.objs.size = s.heap.objs.size := by rw [b3.1, t3.1, b2.1, t2.1, b1.1, t1.1, hs0.1]
    have kk : ∀ c o, c ≠ TO → c ≠ i1 → c ≠ i2 → c ≠ i3 → p0.get? c = some o → q3.get? c = some o := fun c o cO d1 d2 d3 e =>
      b3.extBut _ _ cO (t3.extBut _ _ d3 (b2.extBut _ _ cO (t2.extBut _ _ d2 (b1.extBut _ _ cO (t1.extBut _ _ d1 e)))))
    have zz : q3.get? z = some (zo .ellipsis f TI TO) := kk z _ D.Oz.symm D.z1 D.z2 D.z3 hz0
    have w1 : q3.IsTupleIter i1 l1 (k + 1) := ((((r1.extBut b1.extBut D.O1.symm).extBut t2.extBut D.d12).extBut b2.extBut D.O1.symm).extBut t3.extBut D.d13).extBut b3.extBut D.O1.symm
    have w2 : q3.IsTupleIter i2 l2 (k + 1) := ((r2.extBut b2.extBut D.O2.symm).extBut t3.extBut D.d23).extBut b3.extBut D.O2.symm
    have w3 : q3.IsTupleIter i3 l3 (k + 1) := r3.extBut b3.extBut D.O3.symm
    have zl : z < q3.objs.size := Heap.lt_size zz
    show wpAny _ _ (Builtin.SmallTypes.ownedTupleHandOut (.ref z) (.ref q3.objs.size) >>= _) _ _ _
    refine wpAny_bind ?_
    unfold Builtin.SmallTypes.ownedTupleHandOut
    have z4 : (q3.push { cls := .type "tuple", data := .seq #[x, y, u] }).get? z = some (zo .ellipsis f TI TO) := Heap.get?_push_of_some _ zz
    refine wpAny_bind (wpAny_setField_rec z4 (by simp) fun q5 z5 s5 => ?_)
    replace z5 : q5.get? z = some (zo (rawInt q3.objs.size) f TI TO) := z5
    refine wpAny_setField_rec z5 (by simp) fun q6 z6 s6 => ?_
    replace z6 : q6.get? z = some (zo (rawInt q3.objs.size) false TI TO) := z6
    have up : ∀ c o, c ≠ z → q3.get? c = some o → q6.get? c = some o := fun c o cz e => s6.extBut _ _ cz (s5.extBut _ _ cz (Heap.get?_push_of_some _ e))
    have hT : IsTupOf3 q6 q3.objs.size x y u := s6.extBut _ _ (Nat.ne_of_gt zl) (s5.extBut _ _ (Nat.ne_of_gt zl) (Heap.get?_push_size _ rfl))
    have s8 : q6.objs.size = q3.objs.size + 1 := by rw [s6.1, s5.1, Heap.size_push]
    rw [sz] at z6 hT s8
    refine wpAny_pure ⟨_, rfl, ?_⟩
    show Q (.ref q3.objs.size) _
    rw [sz]
    exact hQ q6 _ _ (.inr ⟨_, rfl⟩) z6 ⟨_, _, _, up _ _ D.Oz e3⟩ (w1.at fun o e => up _ o D.z1.symm e) (w2.at fun o e => up _ o D.z2.symm e) (w3.at fun o e => up _ o D.z3.symm e) hT s8
      fun c o cz cO d1 d2 d3 e => up c o cz (kk c o cO d1 d2 d3 (hs0.extBut _ _ cz e))
  · -- it is held
    simp only [Bool.false_eq_true, if_false]
    have n1 : p0.IsTupleIter i1 l1 k := h1.extBut hs0.extBut D.z1.symm
    have n2 : p0.IsTupleIter i2 l2 k := h2.extBut hs0.extBut D.z2.symm
    have n3 : p0.IsTupleIter i3 l3 k := h3.extBut hs0.extBut D.z3.symm
    have m1 : p0.IsTuple l1 xs := g1.extBut hs0.extBut c1.1
    have m2 : p0.IsTuple l2 ys := g2.extBut hs0.extBut c2.1
    have m3 : p0.IsTuple l3 us := g3.extBut hs0.extBut c3.1
    refine wpAny_bind ?_
    rw [← Array.forIn_toList]
    simp only [List.forIn_cons, List.forIn_nil]
    refine wpAny_bind (wpAny_bind (wpAny_holding ?_))
    show wpAny _ _ (Builtin.SmallTypes.nextOf (.ref i1) >>= _) _ _ _
    refine wpAny_bind (wpAny_nextOf_tuple_item (s := { s with heap := p0 }) n1 m1 hx fun p1 r1 t1 => wpAny_pure (wpAny_pure ?_))
    replace t1 : Heap.SameBut i1 p0 p1 := t1
    refine wpAny_bind (wpAny_bind (wpAny_holding ?_))
    show wpAny _ _ (Builtin.SmallTypes.nextOf (.ref i2) >>= _) _ _ _
    refine wpAny_bind (wpAny_nextOf_tuple_item (s := { s with heap := p1 }) (n2.extBut t1.extBut D.d12.symm) (m2.extBut t1.extBut c2.2.2.1) hy fun p2 r2 t2 => wpAny_pure (wpAny_pure ?_))
    replace t2 : Heap.SameBut i2 p1 p2 := t2
    refine wpAny_bind (wpAny_bind (wpAny_holding ?_))
    show wpAny _ _ (Builtin.SmallTypes.nextOf (.ref i3) >>= _) _ _ _
    refine wpAny_bind (wpAny_nextOf_tuple_item (s := { s with heap := p2 }) ((n3.extBut t1.extBut D.d13.symm).extBut t2.extBut D.d23.symm) ((m3.extBut t1.extBut c3.2.2.1).extBut t2.extBut c3.2.2.2.1) hu fun p3 r3 t3 => wpAny_pure (wpAny_pure (wpAny_pure ?_)))
    replace t3 : Heap.SameBut i3 p2 p3 := t3
    show wpAny _ _ (newTuple [x, y, u] >>= _) _ _ _
    refine wpAny_bind (wpAny_newTuple ?_)
    have sz : p3.objs.size = s.heap.objs.size := by rw [t3.1, t2.1, t1.1, hs0.1]
    have kk : ∀ c o, c ≠ i1 → c ≠ i2 → c ≠ i3 → p0.get? c = some o → p3.get? c = some o := fun c o d1 d2 d3 e => t3.extBut _ _ d3 (t2.extBut _ _ d2 (t1.extBut _ _ d1 e))
    have zz : p3.get? z = some (zo f0 true TI TO) := kk z _ D.z1 D.z2 D.z3 hz0
    have w1 : p3.IsTupleIter i1 l1 (k + 1) := (r1.extBut t2.extBut D.d12).extBut t3.extBut D.d13
    have w2 : p3.IsTupleIter i2 l2 (k + 1) := r2.extBut t3.extBut D.d23
    refine wpAny_pure ⟨_, rfl, ?_⟩
    show Q (.ref p3.objs.size) _
    have hT : IsTupOf3 (p3.push { cls := .type "tuple", data := .seq #[x, y, u] }) p3.objs.size x y u := Heap.get?_push_size _ rfl
    have s8 : (p3.push { cls := .type "tuple", data := .seq #[x, y, u] }).objs.size = p3.objs.size + 1 := Heap.size_push ..
    rw [sz] at hT s8 ⊢
    exact hQ _ _ _ hf (Heap.get?_push_of_some _ zz) ⟨_, _, _, Heap.get?_push_of_some _ (kk _ _ D.O1 D.O2 D.O3 (hs0.extBut _ _ D.Oz hO))⟩ (w1.at fun o e => Heap.get?_push_of_some _ e) (w2.at fun o e => Heap.get?_push_of_some _ e) (r3.at fun o e => Heap.get?_push_of_some _ e)
      hT s8 fun c o cz cO d1 d2 d3 e => Heap.get?_push_of_some _ (kk c o d1 d2 d3 (hs0.extBut _ _ cz e))

/-- the first one is at its end -/
theorem next_end {Q : Fin → Shared → Prop} (hh : A.handled = none) (D : Ap z TI TO i1 i2 i3 l1 l2 l3) (hz : s.heap.get? z = some (zo f0 f TI TO)) (hf : Out f0)
    (hI : IsTupOf3 s.heap TI (.ref i1) (.ref i2) (.ref i3)) (h1 : s.heap.IsTupleIter i1 l1 k) (g1 : s.heap.IsTuple l1 xs) (hx : xs[k]? = none)
    (hE : ∀ h' e, (∀ c o, c ≠ z → c ≠ i1 → s.heap.get? c = some o → h'.get? c = some o) → (∃ o, h'.get? e = some o ∧ o.cls = .type "StopIteration") → E (.ref e) { s with heap := h' }) :
    wpAny (model prog w) A (Builtin.«zip.__next__» ⟨[.ref z], []⟩) Q E s := by
  have c1 := D.lz l1 (.inl rfl)
  show wpAny _ _ (field (.ref z) 2 >>= _) _ _ _
  refine wpAny_bind (wpAny_field hz rfl (x := .bool false) rfl ?_)
  show wpAny _ _ (field (.ref z) 3 >>= _) _ _ _
  refine wpAny_bind (wpAny_field hz rfl (x := .ref TI) rfl ?_)
  refine wpAny_bind (wpAny_seqItems hI rfl ?_)
  show wpAny _ _ (Builtin.SmallTypes.ownedTupleIsFree (.ref z) >>= _) _ _ _
  refine wpAny_bind (isFree hz hf ?_ fun p0 hz0 hs0 => ?_)
  · simp only [if_true]
    refine wpAny_bind (wpAny_rule ?_)
    refine wpAny_bind (wpAny_field hz rfl (x := .ref TO) rfl ?_)
    refine wpAny_bind (wpAny_setField_rec hz (by simp) fun p0 hz0 hs0 => ?_)
    replace hz0 : p0.get? z = some (zo .ellipsis f TI TO) := hz0
    refine wpAny_bind ?_
    simp only [List.zipIdx_cons, List.zipIdx_nil, List.forIn_cons, List.forIn_nil]
    refine wpAny_bind (wpAny_bind (wpAny_onRaise ?_))
    show wpAny _ _ (Builtin.SmallTypes.nextOf (.ref i1) >>= _) _ _ _
    refine wpAny_bind (wpAny_nextOf_tuple_end (s := { s with heap := p0 }) hh (h1.extBut hs0.extBut D.z1.symm) (g1.extBut hs0.extBut c1.1) hx fun p1 e t1 he => ?_)
    obtain ⟨oe, hoe, hce⟩ := he
    replace t1 : Heap.ExtBut i1 p0 p1 := t1
    have z1 : p1.get? z = some (zo .ellipsis f TI TO) := t1 _ _ D.z1 hz0
    have ez : e ≠ z := fun x => by
      subst x
      rw [z1] at hoe
      cases hoe
      simp at hce
    refine wpAny_setField_rec z1 (by simp) fun p2 _ t2 => hE p2 e (fun c o cz d1 x => t2.extBut _ _ cz (t1 _ _ d1 (hs0.extBut _ _ cz x))) ⟨oe, t2.extBut _ _ ez hoe, hce⟩
  · simp only [Bool.false_eq_true, if_false]
    refine wpAny_bind ?_
    rw [← Array.forIn_toList]
    simp only [List.forIn_cons, List.forIn_nil]
    refine wpAny_bind (wpAny_bind (wpAny_holding ?_))
    show wpAny _ _ (Builtin.SmallTypes.nextOf (.ref i1) >>= _) _ _ _
    exact wpAny_bind (wpAny_nextOf_tuple_end (s := { s with heap := p0 }) hh (h1.extBut hs0.extBut D.z1.symm) (g1.extBut hs0.extBut c1.1) hx fun p1 e t1 he => hE p1 e (fun c o cz d1 x => t1 _ _ d1 (hs0.extBut _ _ cz x)) he)

theorem pyNext_item {x y u : Value} {Q : Option Value → Shared → Prop} (D : Ap z TI TO i1 i2 i3 l1 l2 l3) (hz : s.heap.get? z = some (zo f0 f TI TO)) (hf : Out f0)
    (hI : IsTupOf3 s.heap TI (.ref i1) (.ref i2) (.ref i3)) (hO : IsTupOf3 s.heap TO a1 a2 a3)
    (h1 : s.heap.IsTupleIter i1 l1 k) (h2 : s.heap.IsTupleIter i2 l2 k) (h3 : s.heap.IsTupleIter i3 l3 k) (g1 : s.heap.IsTuple l1 xs) (g2 : s.heap.IsTuple l2 ys) (g3 : s.heap.IsTuple l3 us)
    (hx : xs[k]? = some x) (hy : ys[k]? = some y) (hu : us[k]? = some u)
    (hQ : ∀ h' g0 g, Out g0 → h'.get? z = some (zo g0 g TI TO) → (∃ b1 b2 b3, IsTupOf3 h' TO b1 b2 b3) → h'.IsTupleIter i1 l1 (k + 1) → h'.IsTupleIter i2 l2 (k + 1) → h'.IsTupleIter i3 l3 (k + 1) →
      IsTupOf3 h' s.heap.objs.size x y u → h'.objs.size = s.heap.objs.size + 1 →
      (∀ c o, c ≠ z → c ≠ TO → c ≠ i1 → c ≠ i2 → c ≠ i3 → s.heap.get? c = some o → h'.get? c = some o) → Q (some (.ref s.heap.objs.size)) { s with heap := h' }) :
    wpAny (model prog w) A (pyNext (.ref z)) Q E s := by
  have hT : s.TypeIs (.ref z) "zip" := ⟨_, hz, rfl⟩
  unfold pyNext
  exact wpAny_bind (wpAny_attempt (wpAny_callSpecial?_slot (name := Str.ofString "__next__") hT F.slot_zip_next
    (wpAny_call_entry F.slot_zip_next hT F.entry_zip_next
      (next_item D hz hf hI hO h1 h2 h3 g1 g2 g3 hx hy hu fun h' g0 g q1 q2 q3 q4 q5 q6 q7 q8 q9 => wpAny_pure (hQ h' g0 g q1 q2 q3 q4 q5 q6 q7 q8 q9)) (F.args_zip_next_1 _))))
theorem pyNext_end {Q : Option Value → Shared → Prop} (hh : A.handled = none) (D : Ap z TI TO i1 i2 i3 l1 l2 l3) (hz : s.heap.get? z = some (zo f0 f TI TO)) (hf : Out f0)
    (hI : IsTupOf3 s.heap TI (.ref i1) (.ref i2) (.ref i3)) (h1 : s.heap.IsTupleIter i1 l1 k) (g1 : s.heap.IsTuple l1 xs) (hx : xs[k]? = none)
    (hQ : ∀ h', (∀ c o, c ≠ z → c ≠ i1 → s.heap.get? c = some o → h'.get? c = some o) → Q none { s with heap := h' }) : wpAny (model prog w) A (pyNext (.ref z)) Q E s := by
  have hT : s.TypeIs (.ref z) "zip" := ⟨_, hz, rfl⟩
  unfold pyNext
  refine wpAny_bind (wpAny_attempt (wpAny_callSpecial?_slot (name := Str.ofString "__next__") hT F.slot_zip_next
    (wpAny_call_entry F.slot_zip_next hT F.entry_zip_next (next_end hh D hz hf hI h1 g1 hx fun h' e hk he => ?_) (F.args_zip_next_1 _))))
  obtain ⟨o, ho, hc⟩ := he
  refine wpAny_bind (wpAny_isInstance (T := "StopIteration") (b := true) ⟨o, ho, hc⟩ isSubtype_stop ?_)
  exact wpAny_pure (hQ _ hk)
theorem pyIter_z {Q : Value → Shared → Prop} (hz : s.heap.get? z = some (zo f0 f TI TO)) (h : Q (.ref z) s) : wpAny (model prog w) A (pyIter (.ref z)) Q E s := by
  have hT : s.TypeIs (.ref z) "zip" := ⟨_, hz, rfl⟩
  refine wpAny_pyIter_slot hT F.slot_zip_iter (wpAny_call_entry F.slot_zip_iter hT F.entry_zip_iter ?_ (F.args_zip_iter_1 _))
  show wpAny _ _ (ret (.ref z)) _ _ s
  exact wpAny_pure ⟨_, rfl, "zip", _, hT, F.slot_zip_next.lookup, h⟩
end
end LmZ
/-! rules over the hand layer: zip of three tuples (three names, or a star), sum, min, sorted of a tuple of ints. -/
namespace LmR
open PySem PySem.Spec PyProof.Rows L2

/-! ### zip(a, b, c) of tuples -/
def Itz3 (K : PySem.W.Frag) (a b c : Addr) : It :=
  ⟨fun i H => ∃ (xs ys us : List V) (x y u : V), SqT K H a xs ∧ SqT K H b ys ∧ SqT K H c us ∧ xs[i]? = some x ∧ ys[i]? = some y ∧ us[i]? = some u,
    fun i H v H' => ∃ T x y u, v = .ref T ∧ H T = none ∧ H' = upd H T (.tup [x, y, u]) ∧ (∀ xs, SqT K H a xs → xs[i]? = some x) ∧ (∀ ys, SqT K H b ys → ys[i]? = some y) ∧ ∀ us, SqT K H c us → us[i]? = some u,
    fun i H => ∃ xs : List V, SqT K H a xs ∧ xs.length ≤ i⟩
def St3 (z TI TO i1 i2 i3 a b c : Addr) (i : Nat) (h : Heap) : Prop :=
  (∃ f0 f, LmZ.Out f0 ∧ h.get? z = some (LmZ.zo f0 f TI TO)) ∧ IsTupOf3 h TI (.ref i1) (.ref i2) (.ref i3) ∧ (∃ x y u, IsTupOf3 h TO x y u) ∧ h.IsTupleIter i1 a i ∧ h.IsTupleIter i2 b i ∧ h.IsTupleIter i3 c i
theorem turn_zip3 {P : Program} {w : World} {K : PySem.W.Frag} {tg : Expr} {a b c z TI TO i1 i2 i3 : Addr} (D : LmZ.Ap z TI TO i1 i2 i3 a b c) :
    Turn P w K tg (Itz3 K a b c) [z, TI, TO, i1, i2, i3] z (St3 z TI TO i1 i2 i3 a b c) where
  mem := by simp
  obj := fun i h st d hd => by
    obtain ⟨⟨f0, f, _, hz⟩, hTI, ⟨x, y, u, hTO⟩, ⟨o1, e1, _, d1⟩, ⟨o2, e2, _, d2⟩, ⟨o3, e3, _, d3⟩⟩ := st
    have e' : d = z ∨ d = TI ∨ d = TO ∨ d = i1 ∨ d = i2 ∨ d = i3 := by simpa using hd
    rcases e' with q | q | q | q | q | q
    · rw [q]; exact ⟨_, hz, fun v q => nomatch q⟩
    · rw [q]; exact ⟨_, hTI, fun v q => nomatch q⟩
    · rw [q]; exact ⟨_, hTO, fun v q => nomatch q⟩
    · rw [q]; exact ⟨o1, e1, fun v q => by rw [d1] at q; cases q⟩
    · rw [q]; exact ⟨o2, e2, fun v q => by rw [d2] at q; cases q⟩
    · rw [q]; exact ⟨o3, e3, fun v q => by rw [d3] at q; cases q⟩
  keep := fun i h h' st k => by
    obtain ⟨⟨f0, f, hf, hz⟩, hTI, ⟨x, y, u, hTO⟩, h1, h2, h3⟩ := st
    exact ⟨⟨f0, f, hf, k z (by simp) _ hz⟩, k TI (by simp) _ hTI, ⟨x, y, u, k TO (by simp) _ hTO⟩, h1.at fun o q => k i1 (by simp) o q, h2.at fun o q => k i2 (by simp) o q, h3.at fun o q => k i3 (by simp) o q⟩
  item := by
    intro X hP hw hK hc i pins s σ H E I hf st hg
    subst hP hw hK
    obtain ⟨⟨f0, f, ho, hz⟩, hTI, ⟨x0, y0, u0, hTO⟩, h1, h2, h3⟩ := st
    obtain ⟨xs, ys, us, x, y, u, hqx, hqy, hqu, hx, hy, hu⟩ := hg
    obtain ⟨its, rv, p, _⟩ := I.tuple hqx
    obtain ⟨its2, rv2, p2, _⟩ := I.tuple hqy
    obtain ⟨its3, rv3, p3, _⟩ := I.tuple hqu
    obtain ⟨v1, k1, r1⟩ := rv.get hx
    obtain ⟨v2, k2, r2⟩ := rv2.get hy
    obtain ⟨v3, k3, r3⟩ := rv3.get hu
    have hzl : z < s.heap.objs.size := Heap.lt_size hz
    refine LmZ.pyNext_item D hz ho hTI hTO h1 h2 h3 p p2 p3 (x := v1) (y := v2) (u := v3) (by simpa using k1) (by simpa using k2) (by simpa using k3) fun h' g0 g og z' TO' n1 n2 n3 hT hsz hk => ?_
    refine ⟨_, rfl, LmZ.goes (s := { s with heap := h' }) z' og fun h'' g1 og1 z'' sb => ?_⟩
    have hT2 : h''.get? s.heap.objs.size = some { cls := .type "tuple", data := .seq #[v1, v2, v3] } := (sb.2 _ (Nat.ne_of_gt hzl)).trans hT
    have new : ObjOk X.prog X.w (upd H s.heap.objs.size (.tup [x, y, u])) h'' s.heap.objs.size (.tup [x, y, u]) :=
      ⟨by show 3 ≤ sizeLine; decide, [v1, v2, v3], .cons r1 (.cons r2 (.cons r3 .nil)), ⟨_, hT2, rfl, _, rfl⟩⟩
    have I1 : Inv X pins σ (upd H s.heap.objs.size (.tup [x, y, u])) { s with heap := h'' } :=
      I.turnedNew (t' := s.toks) (ch := [z, TI, TO, i1, i2, i3]) (fun d o hb q => (sb.2 d (fun q' => hb (by simp [q']))).trans (hk d o (fun q' => hb (by simp [q'])) (fun q' => hb (by simp [q'])) (fun q' => hb (by simp [q'])) (fun q' => hb (by simp [q'])) (fun q' => hb (by simp [q'])) q)) hf (Nat.le_refl _) new
    obtain ⟨b1, b2, b3, hb⟩ := TO'
    refine ⟨.ref s.heap.objs.size, _, I1, rfl, ⟨_, x, y, u, rfl, I.hok.fresh (Nat.le_refl _), rfl, fun l hl => by rw [I.tuple_inj hl hqx]; exact hx, fun l hl => by rw [I.tuple_inj hl hqy]; exact hy, fun l hl => by rw [I.tuple_inj hl hqu]; exact hu⟩,
      ⟨⟨g1, g, og1, z''⟩, ?_, ⟨b1, b2, b3, ?_⟩, ?_, ?_, ?_⟩, fun d hdm => ?_⟩
    · exact (sb.2 _ D.Iz).trans (hk _ _ D.Iz D.IO D.I1 D.I2 D.I3 hTI)
    · exact (sb.2 _ D.Oz).trans hb
    · exact n1.at fun o q => (sb.2 _ D.z1.symm).trans q
    · exact n2.at fun o q => (sb.2 _ D.z2.symm).trans q
    · exact n3.at fun o q => (sb.2 _ D.z3.symm).trans q
    · have hlt : d < s.heap.objs.size := by
        have e' : d = z ∨ d = TI ∨ d = TO ∨ d = i1 ∨ d = i2 ∨ d = i3 := by simpa using hdm
        rcases e' with q | q | q | q | q | q
        · rw [q]; exact hzl
        · rw [q]; exact Heap.lt_size hTI
        · rw [q]; exact Heap.lt_size hTO
        · rw [q]; obtain ⟨_, e1, _⟩ := h1; exact Heap.lt_size e1
        · rw [q]; obtain ⟨_, e2, _⟩ := h2; exact Heap.lt_size e2
        · rw [q]; obtain ⟨_, e3, _⟩ := h3; exact Heap.lt_size e3
      rw [upd_ne (Nat.ne_of_lt hlt)]
      exact (hf d hdm).1
  done := by
    intro X hP hw hK hc i pins s σ H E I hf st hg
    subst hP hw hK
    obtain ⟨⟨f0, f, ho, hz⟩, hTI, _, h1, _, _⟩ := st
    obtain ⟨xs, hqx, hend⟩ := hg
    obtain ⟨its, rv, p, _⟩ := I.tuple hqx
    have l1 := rv.length
    exact LmZ.pyNext_end (I.ok.hd hc) D hz ho hTI h1 p (by simp; omega) fun h' hk => ⟨rfl, I.turnedL (t' := s.toks) (ch := [z, TI, TO, i1, i2, i3]) (fun d o hb q => hk d o (fun q' => hb (by simp [q'])) (fun q' => hb (by simp [q'])) q) hf⟩
  self := fun A i s Q E st h => by
    obtain ⟨⟨f0, f, ho, hz⟩, _⟩ := st
    exact LmZ.pyIter_z hz h
theorem apart3 {N a b c : Nat} (ha : a < N) (hb : b < N) (hc : c < N) : LmZ.Ap (N + 5) (N + 3) (N + 4) N (N + 1) (N + 2) a b c where
  Iz := show (N + 3 : Nat) ≠ N + 5 by omega
  Oz := show (N + 4 : Nat) ≠ N + 5 by omega
  IO := show (N + 3 : Nat) ≠ N + 4 by omega
  I1 := show (N + 3 : Nat) ≠ N by omega
  I2 := show (N + 3 : Nat) ≠ N + 1 by omega
  I3 := show (N + 3 : Nat) ≠ N + 2 by omega
  O1 := show (N + 4 : Nat) ≠ N by omega
  O2 := show (N + 4 : Nat) ≠ N + 1 by omega
  O3 := show (N + 4 : Nat) ≠ N + 2 by omega
  z1 := show (N + 5 : Nat) ≠ N by omega
  z2 := show (N + 5 : Nat) ≠ N + 1 by omega
  z3 := show (N + 5 : Nat) ≠ N + 2 by omega
  d12 := show (N : Nat) ≠ N + 1 by omega
  d13 := show (N : Nat) ≠ N + 2 by omega
  d23 := show (N + 1 : Nat) ≠ N + 2 by omega
  lz := fun l hl => by
    have far : ∀ m : Nat, m < N → m ≠ N + 5 ∧ m ≠ N + 4 ∧ m ≠ N ∧ m ≠ N + 1 ∧ m ≠ N + 2 := fun m h => by omega
    rcases hl with rfl | rfl | rfl
    · exact far _ ha
    · exact far _ hb
    · exact far _ hc

/-- what the iterator asks of the three -/
def rZip3 (K : PySem.W.Frag) (vs : List V) (H : Hp) (R : It → Hp → Prop) : Prop := ∃ a b c xs ys us, vs = [.ref a, .ref b, .ref c] ∧ SqT K H a xs ∧ SqT K H b ys ∧ SqT K H c us ∧ R (Itz3 K a b c) H
section
variable {X : Cx} {pins : List (Addr × Obj)} {σ : L2.St} {H : Hp} {s : Shared} {tg : Expr} {E : Value → Shared → Prop} {R : It → Hp → Prop} {vs : List V} {us : List Value}
theorem zip3_it (I : Inv X pins σ H s) (r : Vals vs us) (h : rZip3 X.K vs H R) : wpAny (model X.prog X.w) X.A (call (.type "zip") us) (fun v s1 => wpAny (model X.prog X.w) X.A (pyIter v) (PIE X pins σ tg R) X.xe s1) X.xe s := by
  obtain ⟨a, b, c, xs, ys, zs, rfl, qa, qb, qc, q⟩ := h
  cases r with
  | cons r1 r =>
    cases r with
    | cons r2 r =>
      cases r with
      | cons r3 r =>
        cases r
        cases r1
        cases r2
        cases r3
        obtain ⟨its, rv, p1, _⟩ := I.tuple qa
        obtain ⟨its2, rv2, p2, _⟩ := I.tuple qb
        obtain ⟨its3, rv3, p3, _⟩ := I.tuple qc
        obtain ⟨o1, ho1, _⟩ := id p1
        obtain ⟨o2, ho2, _⟩ := id p2
        obtain ⟨o3, ho3, _⟩ := id p3
        have fresh : ∀ d, d ∈ [s.heap.objs.size + 5, s.heap.objs.size + 3, s.heap.objs.size + 4, s.heap.objs.size, s.heap.objs.size + 1, s.heap.objs.size + 2] → FpOk X pins H d := fun d hd => by
          have hle : s.heap.objs.size ≤ d := by
            have e' : d = s.heap.objs.size + 5 ∨ d = s.heap.objs.size + 3 ∨ d = s.heap.objs.size + 4 ∨ d = s.heap.objs.size ∨ d = s.heap.objs.size + 1 ∨ d = s.heap.objs.size + 2 := by simpa using hd
            rcases e' with z | z | z | z | z | z
            · rw [z]; exact Nat.le_add_right _ _
            · rw [z]; exact Nat.le_add_right _ _
            · rw [z]; exact Nat.le_add_right _ _
            · rw [z]; exact Nat.le_refl _
            · rw [z]; exact Nat.le_add_right _ _
            · rw [z]; exact Nat.le_add_right _ _
          exact I.fpOk hle (I.hok.fresh hle)
        refine zip_begins3 (begins_tuple a its.toArray) (begins_tuple b its2.toArray) (begins_tuple c its3.toArray) p1 p2 p3 fun h' hz hTI hTO g1 g2 g3 hsz hk => ?_
        have hz' : h'.get? (s.heap.objs.size + 5) = some (LmZ.zo .none false (s.heap.objs.size + 3) (s.heap.objs.size + 4)) := hz
        refine LmZ.pyIter_z hz' ?_
        have I2 : Inv X pins σ H { s with heap := h' } := I.kept (t' := s.toks) hk
        exact ⟨s.heap.objs.size + 5, _, _, _, H, rfl, I2, turn_zip3 (apart3 (Heap.lt_size ho1) (Heap.lt_size ho2) (Heap.lt_size ho3)),
          ⟨⟨_, _, .inl rfl, hz'⟩, hTI, ⟨_, _, _, hTO⟩, ⟨_, g1, rfl, rfl⟩, ⟨_, g2, rfl, rfl⟩, ⟨_, g3, rfl, rfl⟩⟩, fresh, q⟩
end
section
variable {X : Cx} {tg : Expr}
def iZip3 (K : PySem.W.Frag) (ta : TA) : TI := fun σ H R => ta σ H fun vs H1 => rZip3 K vs H1 R
theorem pi_zip3 {e e2 e3 : Expr} {ta : TA} {p pos : Pos} (hg : Gl X "zip") (hm : X.mg "zip" = none) (ha : PA X [e, e2, e3] ta)
    (hs : starEach [e, e2, e3] X.env = (false, eval e X.env) :: starEach [e2, e3] X.env := by rfl) (hpl : (backTo pos (starEach [e2, e3] X.env)).any (·.1) = false := by rfl) :
    PI X tg (.Call (.Name "zip" p) [e, e2, e3] [] pos) (iZip3 X.K ta) := by
  refine ⟨fun pins s σ H R I h => ?_⟩
  refine Call_ (ld_blt I hg hm PyProof.Rows.boot_zip (PyProof.Rows.callWith_type1 (thn (ha.run pos pins s σ H _ I h) fun us s1 ⟨vs, H1, I1, r1, q1⟩ => ?_) hs hpl))
  exact zip3_it I1 r1 q1
/-- zip(*t) -/
def iZipS (K : PySem.W.Frag) (te : TE) : TI := fun σ H R => te σ H fun y H1 => ∃ t vs, y = V.ref t ∧ SqT K H1 t vs ∧ rZip3 K vs H1 R
theorem pi_zipS {e : Expr} {te : TE} {p pos sp : Pos} (hg : Gl X "zip") (hm : X.mg "zip" = none) (he : PE X e te)
    (hst : starEach [.Starred e sp] X.env = [(true, eval e X.env)] := by rfl) : PI X tg (.Call (.Name "zip" p) [.Starred e sp] [] pos) (iZipS X.K te) := by
  refine ⟨fun pins s σ H R I h => ?_⟩
  refine Call_ (ld_blt I hg hm PyProof.Rows.boot_zip ?_)
  rw [hst]
  refine PySem.W.ks_call (P := fun _ => True) rfl (fun h _ => ⟨.machine, .inr (.inl rfl), PySem.W.Looks.of_pure rfl⟩) (PySem.W.ks_lone (thn (he.run pins s σ H _ I h) fun v s1 ⟨y, H1, I1, ry, t, vs, ey, hx, q⟩ => ?_))
  subst ey
  obtain rfl : v = Value.ref t := ry
  exact StX.star_any I1 (.inl hx) fun us s2 I2 rv => ⟨trivial, zip3_it I2 rv q⟩
end
theorem walk_zip3 {K : PySem.W.Frag} {a b c : Addr} {xs ys us : List V} (h1 : ys.length = xs.length) (h2 : us.length = xs.length) :
    Walk (Itz3 K a b c) xs.length (fun H => SqT K H a xs ∧ SqT K H b ys ∧ SqT K H c us)
      (fun i H v H' => ∃ T x y u, v = .ref T ∧ H T = none ∧ H' = upd H T (.tup [x, y, u]) ∧ xs[i]? = some x ∧ ys[i]? = some y ∧ us[i]? = some u) := by
  refine ⟨fun i _ hi q => ⟨xs, ys, us, xs[i], ys[i]'(by omega), us[i]'(by omega), q.1, q.2.1, q.2.2, by simp [hi], by simp [show i < ys.length by omega], by simp [show i < us.length by omega]⟩,
    fun _ q => ⟨xs, q.1, Nat.le_refl _⟩, fun i H v H' _ q y => ?_⟩
  obtain ⟨T, x, z, u, h1, h2, h3, h4, h5, h6⟩ := y
  exact ⟨T, x, z, u, h1, h2, h3, h4 xs q.1, h5 ys q.2.1, h6 us q.2.2⟩

/-! ### sum, min, sorted of a tuple of ints -/
section
variable {prog : Program} {w : World} {A : Around} {E : Value → Shared → Prop} {s : Shared} {t : Addr} {its : List Value} {ns : List Int} {Q : Value → Shared → Prop}
theorem sum_tup (hh : A.handled = none) (ht : s.heap.IsTuple t its.toArray) (hi : IntsAre its ns)
    (h : ∀ h' tk t', (∀ b o, s.heap.get? b = some o → h'.get? b = some o) → Q (.int ns.sum t') { s with heap := h', toks := tk }) : wpAny (model prog w) A (call (.builtin "sum") [.ref t]) Q E s := by
  obtain ⟨xs, e⟩ := hi.allInts.items
  have hn : numsOf (intItems xs).toList = ns := by rw [← e]; exact hi.numsOf
  rw [nums_intItems] at hn
  rw [e] at ht
  refine PySem.W.ktm_sumG hh ht fun h' tk t' hk => ?_
  have := h h' tk t' hk
  rw [preSum_eq, List.take_of_length_le (by simp), hn]
  exact this
theorem min_tup (hh : A.handled = none) (ht : s.heap.IsTuple t its.toArray) (hi : IntsAre its ns) (hne : 0 < ns.length)
    (h : ∀ h' tk M t', (∀ b o, s.heap.get? b = some o → h'.get? b = some o) → M ∈ ns → (∀ a, a ∈ ns → M ≤ a) → Q (.int M t') { s with heap := h', toks := tk }) : wpAny (model prog w) A (call (.builtin "min") [.ref t]) Q E s := by
  obtain ⟨xs, e⟩ := hi.allInts.items
  have hn : numsOf (intItems xs).toList = ns := by rw [← e]; exact hi.numsOf
  rw [nums_intItems] at hn
  subst hn
  rw [e] at ht
  have hsz : 0 < xs.size := by simpa using hne
  obtain ⟨o, ho, hc, n, hd⟩ := id ht
  have hne' : t ≠ s.heap.objs.size := Nat.ne_of_lt (Heap.lt_size ho)
  have hsx : (intItems xs).size = xs.size := by simp [intItems]
  have W := Walks.tuple (prog := prog) (w := w) (A := A.in1) hh s.heap.objs.size t hne' (intItems xs)
  rw [hsx] at W
  refine call_min_walk (wpAny_pyIter_tuple ht ?_)
  refine ⟨s.heap.objs.size, _, _, _, _, _, _, rfl, W, ⟨⟨_, Heap.get?_push_size _ rfl, rfl, rfl⟩, ht.at fun o e => Heap.get?_push_of_some _ e⟩, fun b hb => ?_, hsz, CmpOf.ints_lt (numAt xs) (fun _ _ => intItems_at), fun v h' tk hP hk => ?_⟩
  · rcases List.mem_cons.mp hb with rfl | hb
    · exact Heap.lt_size (Heap.get?_push_size _ rfl)
    · obtain rfl := List.mem_singleton.mp hb
      exact Heap.lt_size (Heap.get?_push_of_some _ ho)
  · obtain ⟨t', rfl⟩ := intItems_at hP
    obtain ⟨h1, h2⟩ := argBest_lt (numAt xs) (xs.size - 1)
    refine h h' tk _ t' (fun b o e => hk b o (fun hb => absurd (Heap.lt_size e) ((List.mem_singleton.mp hb) ▸ Nat.lt_irrefl _)) (Heap.get?_push_of_some _ e)) ?_ fun a ha => ?_
    · rw [numAt_eq]; exact PySem.getD_mem (by rw [List.length_map, Array.length_toList]; omega)
    · obtain ⟨j, hj, rfl⟩ := mem_getD ha
      rw [List.length_map, Array.length_toList] at hj
      rw [← numAt_eq]; exact h2 j (by omega)
end
section
variable {X : Cx}
theorem cr_sumT (hc : X.calm = true) : CallR X (.builtin "sum") (fun vs H Q => ∃ (a : Addr) (ns : List Int), vs = [V.ref a] ∧ SqT X.K H a (ns.map V.int) ∧ Q (.int ns.sum) H) := by
  intro pins s σ H vs us Q I r h
  obtain ⟨a, ns, rfl, hs, q⟩ := h
  obtain ⟨its, rv, ht, _⟩ := I.tuple hs
  rw [Vals.ref1 r]
  exact sum_tup (I.ok.hd hc) ht rv.ints fun h' tk t' hk => ⟨.int _, H, I.kept hk, ⟨_, rfl⟩, q⟩
theorem cr_minT (hc : X.calm = true) : CallR X (.builtin "min") (fun vs H Q => ∃ (a : Addr) (ns : List Int), vs = [V.ref a] ∧ SqT X.K H a (ns.map V.int) ∧ 0 < ns.length ∧ ∀ m, m ∈ ns → (∀ y, y ∈ ns → m ≤ y) → Q (.int m) H) := by
  intro pins s σ H vs us Q I r h
  obtain ⟨a, ns, rfl, hs, hne, q⟩ := h
  obtain ⟨its, rv, ht, _⟩ := I.tuple hs
  rw [Vals.ref1 r]
  exact min_tup (I.ok.hd hc) ht rv.ints hne fun h' tk m t' hk h1 h2 => ⟨.int _, H, I.kept hk, ⟨_, rfl⟩, q m h1 h2⟩
def rSortedTup (K : PySem.W.Frag) : List V → Hp → VK → Prop := fun vs H Q => ∃ (a : Addr) (ns : List Int), vs = [V.ref a] ∧ SqT K H a (ns.map V.int) ∧ ns.length < 64 ∧
  ∀ (ns' : List Int) (p : Addr), ns'.Perm ns → ns'.Pairwise (· ≤ ·) → H p = none → Q (.ref p) (upd H p (.lst (ns'.map V.int)))
theorem cr_sortedTup : CallR X (.builtin "sorted") (rSortedTup X.K) := by
  intro pins s σ H vs us Q I r h
  obtain ⟨a, ns, rfl, hs, h64, q⟩ := h
  obtain ⟨its, rv, ht, _⟩ := I.tuple hs
  rw [Vals.ref1 r]
  have hi := rv.ints
  obtain ⟨o, ho, hc, n, hd⟩ := id ht
  have hl : its.length = ns.length := by rw [← rv.length, List.length_map]
  refine Calls.call_function_entry kind_sorted plain_sorted entry_sorted (args_sorted1 _) ?_
  unfold Builtin.«sorted»
  refine wpAny_bind (m := PySem.checkCount "sorted" 1 1 _) (wpAny_pure ?_)
  refine wpAny_bind (wpAny_collect_seq a (.inr rfl) ho hc hd (fun h1 k1 => ?_) (by rw [List.size_toArray, sizeLine_eq]; omega))
  have I1 : Inv X pins σ H { s with heap := h1 } := I.kept (t' := s.toks) k1
  refine wpAny_bind (wpAny_newList ?_)
  have hoL : (h1.push (seqObj "list" its.toArray 0)).get? h1.objs.size = some (seqObj "list" its.toArray 0) := Heap.get?_push_size _ rfl
  have np : H h1.objs.size = none := I1.hok.fresh (Nat.le_refl _)
  have I2 : Inv X pins σ (upd H h1.objs.size (.lst (ns.map V.int))) { s with heap := h1.push (seqObj "list" its.toArray 0) } :=
    I1.laid (t' := s.toks) (fun b o e => Heap.get?_push_of_some _ e) (Nat.le_refl _) ⟨by rw [List.length_map]; exact small64 h64, its, 0, rv, hoL⟩
  show wpAny _ _ _ _ _ { s with heap := h1.push (seqObj "list" its.toArray 0) }
  refine wpAny_bind (wpAny_holding (wpAny_call_entry slot_list_sort ⟨_, hoL, rfl⟩ entry_list_sort (list_sort_tree hoL hi (by rw [hl]; exact h64) fun out ns' e1 e2 e3 => ⟨_, rfl, ?_⟩) (args_list_sort _)))
  obtain ⟨ep, he'⟩ := sortedHeap_at (vs := its) (out := out) hoL
  have hlen : (ns'.map V.int).length ≤ sizeLine := by rw [List.length_map, e2.length_eq]; exact small64 h64
  refine wpAny_pure ⟨_, rfl, .ref h1.objs.size, upd H h1.objs.size (.lst (ns'.map V.int)), ?_, rfl, q ns' _ e2 e3 np⟩
  have I3 := I2.write (x := h1.objs.size) (e := h1.objs.size) (o := .lst (ns'.map V.int)) (h' := sortedHeap (h1.push (seqObj "list" its.toArray 0)) h1.objs.size its out) (t' := s.toks) (by rw [upd_same]; trivial) (.inl rfl)
    (fun b u hb hu => by rw [sortedHeap_old hb (Heap.lt_size hu)]; exact hu) ⟨_, he'⟩ ⟨hlen, out.toList, ep, vals_of_ints e1, he'⟩
  rw [upd_upd] at I3
  exact I3
end
end LmR
/-! what the walk of every def leans on: the text by places, data in the heap, comprehensions over anything that is walked. -/
namespace LmW
open PySem PySem.Spec PyProof.Rows L2

def topS (i : Nat) : Stmt := PySem.Challenge.pw_leastmoved_k28_whole_tables_of_three.main.body.getD i (.Pass ⟨0, 0, 0, 0⟩)
/-- a def of the text as it stands behind the top -/
structure Defn (K : PySem.W.Frag) (mg : Str → Option Value) (x : Str) (st : Stmt) (ps : List Str) where
  f : Addr
  fd : FuncData
  F : Fun K x x st f fd
  B : Binds K fd ps []
  g : mg x = some (.ref f)
section
variable (P : Program) (w : World) {K : PySem.W.Frag} {mg : Str → Option Value} (base : Heap)
abbrev Ok (k : Nat) {x : Str} {st : Stmt} {ps : List Str} (D : Defn K mg x st ps) (sp : Sp) : Prop := FnOk P w K mg base CX0 k D.f D.fd ps sp
end
/-- names for the library's readings -/
def rLen (K : PySem.W.Frag) : List V → Hp → VK → Prop := fun xs H Q => ∃ p ys, xs = [.ref p] ∧ (SqL K H p ys ∨ SqT K H p ys) ∧ Q (.int ys.length) H
def rTup (K : PySem.W.Frag) : List V → Hp → VK → Prop := fun xs H Q => ∃ p ys, xs = [.ref p] ∧ ((SqL K H p ys ∧ ∀ l, H l = none → Q (.ref l) (upd H l (.tup ys))) ∨ (SqT K H p ys ∧ Q (.ref p) H))
def rSumT (K : PySem.W.Frag) : List V → Hp → VK → Prop := fun vs H Q => ∃ (a : Addr) (ns : List Int), vs = [V.ref a] ∧ SqT K H a (ns.map V.int) ∧ Q (.int ns.sum) H
def rMinT (K : PySem.W.Frag) : List V → Hp → VK → Prop := fun vs H Q => ∃ (a : Addr) (ns : List Int), vs = [V.ref a] ∧ SqT K H a (ns.map V.int) ∧ 0 < ns.length ∧ ∀ m, m ∈ ns → (∀ y, y ∈ ns → m ≤ y) → Q (.int m) H
/-! ### heaps -/
theorem same_new {H : Hp} {p : Addr} {o : HO} (h : H p = none) : Same H (upd H p o) := fun b x e => by
  rw [upd_ne (ne_of_none e h)]
  exact e
/-- what H does not know may change -/
theorem same_mut {H H' : Hp} {p : Addr} {o : HO} (e : Same H H') (h : H p = none) : Same H (upd H' p o) := fun a u ha => by
  rw [upd_ne (ne_of_none ha h)]
  exact e a u ha
/-- all but the things in E stay -/
def Keep (E : Addr → Prop) (H H' : Hp) : Prop := ∀ b o, ¬ E b → H b = some o → H' b = some o
theorem Keep.refl (E : Addr → Prop) (H : Hp) : Keep E H H := fun _ _ _ h => h
theorem Keep.trans {E : Addr → Prop} {H H1 H2 : Hp} (a : Keep E H H1) (b : Keep E H1 H2) : Keep E H H2 := fun c o n h => b c o n (a c o n h)
theorem Keep.of {E : Addr → Prop} {H H' : Hp} (s : Same H H') : Keep E H H' := fun b o _ h => s b o h
theorem Keep.same {H H' : Hp} (k : Keep (fun _ => False) H H') : Same H H' := fun b o h => k b o (fun z => z) h
theorem Keep.new {E : Addr → Prop} {H : Hp} {p : Addr} {o : HO} (h : H p = none) : Keep E H (upd H p o) := Keep.of (same_new h)
theorem Keep.mut {E : Addr → Prop} {H H' : Hp} {p : Addr} {o : HO} (e : Keep E H H') (h : H p = none ∨ E p) : Keep E H (upd H' p o) := fun a u n ha => by
  have ne : a ≠ p := fun z => by
    rcases h with h | h
    · rw [z, h] at ha; cases ha
    · exact n (z ▸ h)
  rw [upd_ne ne]
  exact e a u n ha
theorem small {n : Nat} (h : n ≤ 100000) : n ≤ sizeLine := Nat.le_trans h (by decide)
theorem smallL {n : Nat} (h : n < 100000) : n < sizeLine := Nat.lt_of_lt_of_le h (by decide)

/-! ### data -/
/-- a tuple of ints, a list of ints, a tuple of such and so on -/
def TI (ns : List Int) (v : V) (H : Hp) : Prop := ∃ a, v = .ref a ∧ H a = some (.tup (ns.map V.int))
def LI (ns : List Int) (v : V) (H : Hp) : Prop := ∃ a, v = .ref a ∧ H a = some (.lst (ns.map V.int))
theorem TI.mono {ns : List Int} {v : V} {H H' : Hp} (h : TI ns v H) (s : Same H H') : TI ns v H' := by
  obtain ⟨a, e, q⟩ := h
  exact ⟨a, e, s a _ q⟩
theorem LI.mono {ns : List Int} {v : V} {H H' : Hp} (h : LI ns v H) (s : Same H H') : LI ns v H' := by
  obtain ⟨a, e, q⟩ := h
  exact ⟨a, e, s a _ q⟩
/-- tuples stay where a list changes -/
theorem TI.keep {ns : List Int} {v : V} {H H' : Hp} {E : Addr → Prop} (h : TI ns v H) (s : Keep E H H') (hE : ∀ b, E b → ∃ l, H b = some (.lst l)) : TI ns v H' := by
  obtain ⟨a, e, q⟩ := h
  refine ⟨a, e, s a _ (fun z => ?_) q⟩
  obtain ⟨l, hl⟩ := hE a z
  rw [q] at hl
  cases hl
theorem TI.at {K : PySem.W.Frag} {ns : List Int} {v : V} {H : Hp} (h : TI ns v H) : ∃ a, v = .ref a ∧ SqT K H a (ns.map V.int) := by
  obtain ⟨a, e, q⟩ := h
  exact ⟨a, e, SqT.of q⟩
abbrev Each {α : Type} (R : α → V → Hp → Prop) (H : Hp) (xs : List α) (vs : List V) : Prop := Paired (fun x v => R x v H) xs vs
/-- a list, a tuple of such things -/
def LO {α : Type} (R : α → V → Hp → Prop) (xs : List α) (v : V) (H : Hp) : Prop := ∃ a vs, v = .ref a ∧ H a = some (.lst vs) ∧ Each R H xs vs
def TO {α : Type} (R : α → V → Hp → Prop) (xs : List α) (v : V) (H : Hp) : Prop := ∃ a vs, v = .ref a ∧ H a = some (.tup vs) ∧ Each R H xs vs
theorem Each.mono {α : Type} {R : α → V → Hp → Prop} {H H' : Hp} (hR : ∀ x v, R x v H → R x v H') : ∀ {xs : List α} {vs : List V}, Each R H xs vs → Each R H' xs vs
  | _, _, .nil => .nil
  | _, _, .cons a t => .cons (hR _ _ a) (Each.mono hR t)
theorem Each.get {α : Type} {R : α → V → Hp → Prop} {H : Hp} : ∀ {xs : List α} {vs : List V} {i : Nat} {x : α}, Each R H xs vs → xs[i]? = some x → ∃ v, vs[i]? = some v ∧ R x v H
  | _, _, _, _, .nil, e => by simp at e
  | _, _, 0, _, .cons a _, e => by
    have e' := Option.some.inj e
    subst e'
    exact ⟨_, rfl, a⟩
  | _, _, i + 1, _, .cons _ t, e => Each.get (i := i) t e
theorem Each.getV {α : Type} {R : α → V → Hp → Prop} {H : Hp} : ∀ {xs : List α} {vs : List V} {i : Nat} {v : V}, Each R H xs vs → vs[i]? = some v → ∃ x, xs[i]? = some x ∧ R x v H
  | _, _, _, _, .nil, e => by simp at e
  | _, _, 0, _, .cons a _, e => by
    have e' := Option.some.inj e
    subst e'
    exact ⟨_, rfl, a⟩
  | _, _, i + 1, _, .cons _ t, e => Each.getV (i := i) t e
theorem Each.len {α : Type} {R : α → V → Hp → Prop} {H : Hp} : ∀ {xs : List α} {vs : List V}, Each R H xs vs → xs.length = vs.length
  | _, _, .nil => rfl
  | _, _, .cons _ t => congrArg (· + 1) (Each.len t)
theorem Each.app {α : Type} {R : α → V → Hp → Prop} {H : Hp} : ∀ {xs ys : List α} {vs us : List V}, Each R H xs vs → Each R H ys us → Each R H (xs ++ ys) (vs ++ us)
  | _, _, _, _, .nil, b => b
  | _, _, _, _, .cons a t, b => .cons a (Each.app t b)
theorem Each.vals {α : Type} {F : α → V} {H : Hp} : ∀ {xs : List α} {vs : List V}, Each (fun x v _ => v = F x) H xs vs → vs = xs.map F
  | _, _, .nil => rfl
  | x :: _, v :: _, .cons a t => by
    have e : v = F x := a
    rw [e, Each.vals (H := H) t, List.map_cons]
theorem Each.map {α β : Type} {R : β → V → Hp → Prop} {F : α → β} {H : Hp} : ∀ {xs : List α} {vs : List V}, Each (fun x v H => R (F x) v H) H xs vs → Each R H (xs.map F) vs
  | _, _, .nil => .nil
  | _, _, .cons a t => .cons a (Each.map t)

/-! ### a comprehension over anything that is walked -/
section
variable {J : It} {n : Nat} {G : Hp → Prop} {Y : Nat → Hp → V → Hp → Prop} {g : TG} {tt : TT} {te : TE} {vs : List Nat} {σ : L2.St} {H1 : Hp} {D : Addr} {Qd : Hp → Prop}
theorem range_yes {n : Nat} {f : Nat → Bool} (h : f n = true) : (List.range (n + 1)).filter f = (List.range n).filter f ++ [n] := by
  rw [List.range_succ, List.filter_append, List.filter_cons, if_pos h]
  rfl
theorem range_no {n : Nat} {f : Nat → Bool} (h : f n = false) : (List.range (n + 1)).filter f = (List.range n).filter f := by
  rw [List.range_succ, List.filter_append, List.filter_cons, if_neg (by rw [h]; decide)]
  simp
/-- E: what the turns may change; Iv: what stands of it. f: the test; R: the elements -/
theorem lc_gen (w : Walk J n G Y) (E : Addr → Prop) (Iv : Hp → Prop) (hD : H1 D = none) (hG : ∀ H', Keep E H1 H' → Iv H' → G H') (hY : ∀ i H x H', Y i H x H' → Same H H') (f : Nat → Bool) (R : Nat → V → Hp → Prop)
    (st : ∀ i v H H', (∃ l, H D = some (.lst l)) → Iv H → Keep (fun b => E b ∨ b = D) H H' → R i v H → R i v H') (hn : n ≤ 100000) (hE : ¬ E D) (iv0 : Iv H1) (ivD : ∀ H o, H D = none ∨ (∃ l, H D = some (.lst l)) → Iv H → Iv (upd H D o))
    (turn : ∀ i x H H', i < n → Keep E H1 H → Iv H → (∃ l, H D = some (.lst l)) → Y i H x H' → ∀ (K1 : VK) (K0 : Hp → Prop), (f i = true → ∀ v H4, Keep E H H4 → Iv H4 → R i v H4 → K1 v H4) → (f i = false → ∀ H4, Keep E H H4 → Iv H4 → K0 H4) →
      g x (wipe σ vs) H' fun σ2 H2 => wipe σ2 vs = wipe σ vs ∧ tt σ2 H2 fun b H3 => if b = true then te σ2 H3 K1 else K0 H3)
    (hd : ∀ H' ys, Keep E H1 H' → Iv H' → H' D = some (.lst ys) → Each R H' ((List.range n).filter f) ys → Qd H') :
    ∃ W : Nat → Nat → Hp → Prop, (∃ m, W 0 m (upd H1 D (.lst []))) ∧ ∀ i m H, W i m H →
      (J.stop i H ∧ Qd H) ∨ (J.go i H ∧ ∃ Nx : Hp → Prop, (∀ H', Nx H' → ∃ m', m' < m ∧ W (i + 1) m' H') ∧ ∀ x H', J.yld i H x H' → g x (wipe σ vs) H' fun σ2 H2 => wipe σ2 vs = wipe σ vs ∧ tt σ2 H2 fun b H3 =>
        if b = true then te σ2 H3 fun y H4 => ∃ acc, H4 D = some (.lst acc) ∧ acc.length < sizeLine ∧ Nx (upd H4 D (.lst (acc ++ [y]))) else Nx H3) := by
  refine lc_it w (fun i H => i ≤ n ∧ Keep E H1 H ∧ Iv H ∧ ∃ ys, H D = some (.lst ys) ∧ Each R H ((List.range i).filter f) ys)
    ⟨Nat.zero_le _, Keep.new hD, ivD _ _ (.inl hD) iv0, [], upd_same, .nil⟩ (fun i H _ p => hG H p.2.1 p.2.2.1) (fun i x H H' hi p y => ?_) fun H p => ?_
  · obtain ⟨_, k, iv, ys, hy, ey⟩ := p
    refine turn i x H H' hi k iv ⟨_, hy⟩ y _ _ (fun hf v H4 k4 iv4 r => ?_) fun hf H4 k4 iv4 => ?_
    · have h4 := k4 D _ hE hy
      have len : ys.length ≤ i := by
        have a := ey.len
        have b := List.length_filter_le f (List.range i)
        rw [List.length_range] at b
        omega
      have kk : Keep (fun b => E b ∨ b = D) H4 (upd H4 D (.lst (ys ++ [v]))) := fun b o nb hb => by
        rw [upd_ne (fun z => nb (.inr z))]
        exact hb
      refine ⟨ys, h4, smallL (by omega), hi, (k.trans k4).mut (.inl hD), ivD _ _ (.inr ⟨_, h4⟩) iv4, ys ++ [v], upd_same, ?_⟩
      rw [range_yes hf]
      refine Each.app (Each.mono (fun j u q => ?_) ey) (.cons (st i v H4 _ ⟨_, h4⟩ iv4 kk r) .nil)
      exact st j u H4 _ ⟨_, h4⟩ iv4 kk (st j u H H4 ⟨_, hy⟩ iv (fun b o nb hb => k4 b o (fun z => nb (.inl z)) hb) q)
    · refine ⟨hi, k.trans k4, iv4, ys, k4 D _ hE hy, ?_⟩
      rw [range_no hf]
      exact Each.mono (fun j u q => st j u H H4 ⟨_, hy⟩ iv (fun b o nb hb => k4 b o (fun z => nb (.inl z)) hb) q) ey
  · obtain ⟨_, k, iv, ys, hy, ey⟩ := p
    exact hd H ys k iv hy ey
/-- where all that stood stays -/
theorem lc_same (w : Walk J n G Y) (hD : H1 D = none) (hG : ∀ H', Same H1 H' → G H') (hY : ∀ i H x H', Y i H x H' → Same H H') (f : Nat → Bool) (R : Nat → V → Hp → Prop)
    (st : ∀ i v H H', (∃ l, H D = some (.lst l)) → Keep (fun b => b = D) H H' → R i v H → R i v H') (hn : n ≤ 100000)
    (turn : ∀ i x H H', i < n → Same H1 H → (∃ l, H D = some (.lst l)) → Y i H x H' → ∀ (K1 : VK) (K0 : Hp → Prop), (f i = true → ∀ v H4, Same H H4 → R i v H4 → K1 v H4) → (f i = false → ∀ H4, Same H H4 → K0 H4) →
      g x (wipe σ vs) H' fun σ2 H2 => wipe σ2 vs = wipe σ vs ∧ tt σ2 H2 fun b H3 => if b = true then te σ2 H3 K1 else K0 H3)
    (hd : ∀ H' ys, Same H1 H' → H' D = some (.lst ys) → Each R H' ((List.range n).filter f) ys → Qd H') :
    ∃ W : Nat → Nat → Hp → Prop, (∃ m, W 0 m (upd H1 D (.lst []))) ∧ ∀ i m H, W i m H →
      (J.stop i H ∧ Qd H) ∨ (J.go i H ∧ ∃ Nx : Hp → Prop, (∀ H', Nx H' → ∃ m', m' < m ∧ W (i + 1) m' H') ∧ ∀ x H', J.yld i H x H' → g x (wipe σ vs) H' fun σ2 H2 => wipe σ2 vs = wipe σ vs ∧ tt σ2 H2 fun b H3 =>
        if b = true then te σ2 H3 fun y H4 => ∃ acc, H4 D = some (.lst acc) ∧ acc.length < sizeLine ∧ Nx (upd H4 D (.lst (acc ++ [y]))) else Nx H3) :=
  lc_gen w (fun _ => False) (fun _ => True) hD (fun H' k _ => hG H' k.same) hY f R
    (fun i v H H' hl _ k r => st i v H H' hl (fun b o nb hb => k b o (fun z => z.elim (fun q => q) nb) hb) r) hn (fun z => z) trivial (fun _ _ _ _ => trivial)
    (fun i x H H' hi k _ hl y K1 K0 k1 k0 => turn i x H H' hi k.same hl y K1 K0 (fun hf v H4 s r => k1 hf v H4 (Keep.of s) trivial r) fun hf H4 s => k0 hf H4 (Keep.of s) trivial)
    (fun H' ys k _ hy ey => hd H' ys k.same hy ey)
theorem filter_all (n : Nat) : (List.range n).filter (fun _ => true) = List.range n := List.filter_eq_self.mpr fun _ _ => rfl
/-- to a name: values alone, no test -/
theorem lc_vals {j : Nat} (w : Walk J n G Y) (hD : H1 D = none) (hG : ∀ H', Same H1 H' → G H') (hY : ∀ i H x H', Y i H x H' → Same H H') (F : Nat → V) (hn : n ≤ 100000) (hw : ∀ x, wipe ((wipe σ vs).set j (some x)) vs = wipe σ vs)
    (turn : ∀ i x H H', i < n → Same H1 H → Y i H x H' → ∀ (K1 : VK), (∀ H4, Same H H4 → K1 (F i) H4) → te ((wipe σ vs).set j (some x)) H' K1)
    (hd : ∀ H', Same H1 H' → H' D = some (.lst ((List.range n).map F)) → Qd H') :
    ∃ W : Nat → Nat → Hp → Prop, (∃ m, W 0 m (upd H1 D (.lst []))) ∧ ∀ i m H, W i m H →
      (J.stop i H ∧ Qd H) ∨ (J.go i H ∧ ∃ Nx : Hp → Prop, (∀ H', Nx H' → ∃ m', m' < m ∧ W (i + 1) m' H') ∧ ∀ x H', J.yld i H x H' → (gName j) x (wipe σ vs) H' fun σ2 H2 => wipe σ2 vs = wipe σ vs ∧ tYes σ2 H2 fun b H3 =>
        if b = true then te σ2 H3 fun y H4 => ∃ acc, H4 D = some (.lst acc) ∧ acc.length < sizeLine ∧ Nx (upd H4 D (.lst (acc ++ [y]))) else Nx H3) :=
  lc_same (g := gName j) (tt := tYes) w hD hG hY (fun _ => true) (fun i v _ => v = F i) (fun _ _ _ _ _ _ r => r) hn
    (fun i x H H' hi s _ y K1 K0 k1 _ => ⟨hw x, iteT (B := K0 H') (turn i x H H' hi s y K1 fun H4 s4 => k1 rfl _ H4 s4 rfl)⟩)
    (fun H' ys s hy ey => hd H' s (by
      have e := Each.vals ey
      rw [filter_all] at e
      rw [hy, e]))
end
theorem yat_same {xs : List V} : ∀ i H x H', YAt xs i H x H' → Same H H' := fun _ _ _ _ y => by
  rw [y.1]
  exact Same.refl _
theorem yfn_same {f : Nat → V} : ∀ i H x H', YFn f i H x H' → Same H H' := fun _ _ _ _ y => by
  rw [y.1]
  exact Same.refl _

/-! ### == of tuples of ints -/
theorem dp_ints {K : PySem.W.Frag} {H : Hp} : ∀ ns : List Int, DpAll K H (ns.map V.int) (ns.map PyData.int)
  | [] => .nil
  | n :: ns => .cons (.int n) (dp_ints ns)
theorem dp_tup {K : PySem.W.Frag} {H : Hp} {ns : List Int} {v : V} (h : TI ns v H) : Dp K H v (.tuple (ns.map PyData.int)) := by
  obtain ⟨a, rfl, q⟩ := h
  exact .tup (SqT.of q) (dp_ints ns)
theorem can_ints : ∀ ns : List Int, PyData.canLayAll0 (ns.map PyData.int) = true
  | [] => rfl
  | _ :: ns => by
    rw [List.map_cons]
    unfold PyData.canLayAll0
    rw [can_ints ns]
    rfl
theorem depth_ints : ∀ ns : List Int, PyData.depthAll (ns.map PyData.int) ≤ 1
  | [] => Nat.zero_le _
  | _ :: ns => by
    rw [List.map_cons]
    unfold PyData.depthAll
    exact Nat.max_le.mpr ⟨Nat.zero_le 1, depth_ints ns⟩
theorem shaped_tup (ns : List Int) : SeqAt.shaped (.tuple (ns.map PyData.int)) = true := by
  unfold SeqAt.shaped
  have h1 : (PyData.tuple (ns.map PyData.int)).canLay0 = true := can_ints ns
  have h2 : (PyData.tuple (ns.map PyData.int)).depth ≤ 64 := Nat.le_trans (Nat.succ_le_succ (depth_ints ns)) (by decide)
  rw [h1, decide_eq_true h2]
  rfl
theorem eqv_tup (ns ms : List Int) : PyData.eqv (.tuple (ns.map PyData.int)) (.tuple (ms.map PyData.int)) = decide (ns = ms) := by
  rw [← PySem.W.ked_eqvAll ns ms]
  rfl
end LmW
/-! the defs of the text by places; their names by slots; what the top has left (printed by a program of our own). -/
namespace LmW
open PySem PySem.Spec PyProof.Rows L2
abbrev s_is_whole : Stmt := topS 6
abbrev N_is_whole : List Str := ["value"]
theorem sc_is_whole : FnScope N_is_whole ["value"] (defScope s_is_whole) := ⟨rfl, rfl, rfl, by decide +kernel, rfl, by decide +kernel, by decide +kernel⟩
abbrev s_is_between : Stmt := topS 7
abbrev N_is_between : List Str := ["value", "low", "high"]
theorem sc_is_between : FnScope N_is_between ["value", "low", "high"] (defScope s_is_between) := ⟨rfl, rfl, rfl, by decide +kernel, rfl, by decide +kernel, by decide +kernel⟩
abbrev s_is_allocation : Stmt := topS 8
abbrev N_is_allocation : List Str := ["value", "variants", "buckets", "share"]
theorem sc_is_allocation : FnScope N_is_allocation ["value", "variants", "buckets"] (defScope s_is_allocation) := ⟨rfl, rfl, rfl, by decide +kernel, rfl, by decide +kernel, by decide +kernel⟩
abbrev s_check_allocation : Stmt := topS 9
abbrev N_check_allocation : List Str := ["value", "name", "share"]
theorem sc_check_allocation : FnScope N_check_allocation ["value", "name"] (defScope s_check_allocation) := ⟨rfl, rfl, rfl, by decide +kernel, rfl, by decide +kernel, by decide +kernel⟩
abbrev s_check_alike : Stmt := topS 10
abbrev N_check_alike : List Str := ["value", "first", "name"]
theorem sc_check_alike : FnScope N_check_alike ["value", "first", "name"] (defScope s_check_alike) := ⟨rfl, rfl, rfl, by decide +kernel, rfl, by decide +kernel, by decide +kernel⟩
abbrev s_medians : Stmt := topS 11
abbrev N_medians : List Str := ["first", "second", "third", "shares"]
theorem sc_medians : FnScope N_medians ["first", "second", "third"] (defScope s_medians) := ⟨rfl, rfl, rfl, by decide +kernel, rfl, by decide +kernel, by decide +kernel⟩
abbrev s_is_some_allocation : Stmt := topS 15
abbrev N_is_some_allocation : List Str := ["value", "share"]
theorem sc_is_some_allocation : FnScope N_is_some_allocation ["value"] (defScope s_is_some_allocation) := ⟨rfl, rfl, rfl, by decide +kernel, rfl, by decide +kernel, by decide +kernel⟩
abbrev s_check_like : Stmt := topS 16
abbrev N_check_like : List Str := ["model", "others", "name", "value", "other_name", "other"]
theorem sc_check_like : FnScope N_check_like ["model", "others"] (defScope s_check_like) := ⟨rfl, rfl, rfl, by decide +kernel, rfl, by decide +kernel, by decide +kernel⟩
abbrev s_check_three : Stmt := topS 17
abbrev N_check_three : List Str := ["first", "second", "third"]
theorem sc_check_three : FnScope N_check_three ["first", "second", "third"] (defScope s_check_three) := ⟨rfl, rfl, rfl, by decide +kernel, rfl, by decide +kernel, by decide +kernel⟩
abbrev s_extra : Stmt := topS 18
abbrev N_extra : List Str := ["allocations"]
theorem sc_extra : FnScope N_extra ["allocations"] (defScope s_extra) := ⟨rfl, rfl, rfl, by decide +kernel, rfl, by decide +kernel, by decide +kernel⟩
abbrev s_repeated : Stmt := topS 19
abbrev N_repeated : List Str := ["counts", "found", "variant", "count"]
theorem sc_repeated : FnScope N_repeated ["counts"] (defScope s_repeated) := ⟨rfl, rfl, rfl, by decide +kernel, rfl, by decide +kernel, by decide +kernel⟩
abbrev s_twice_at : Stmt := topS 20
abbrev N_twice_at : List Str := ["allocations", "place", "others", "own", "k", "share", "one", "two"]
theorem sc_twice_at : FnScope N_twice_at ["allocations", "place"] (defScope s_twice_at) := ⟨rfl, rfl, rfl, by decide +kernel, rfl, by decide +kernel, by decide +kernel⟩
abbrev s_single_at : Stmt := topS 21
abbrev N_single_at : List Str := ["allocations", "place", "others", "own", "k", "share", "one", "two"]
theorem sc_single_at : FnScope N_single_at ["allocations", "place"] (defScope s_single_at) := ⟨rfl, rfl, rfl, by decide +kernel, rfl, by decide +kernel, by decide +kernel⟩
abbrev s_with_single : Stmt := topS 22
abbrev N_with_single : List Str := ["place", "single", "other", "k"]
theorem sc_with_single : FnScope N_with_single ["place", "single", "other"] (defScope s_with_single) := ⟨rfl, rfl, rfl, by decide +kernel, rfl, by decide +kernel, by decide +kernel⟩
abbrev s_dealt : Stmt := topS 23
abbrev N_dealt : List Str := ["allocations", "triples", "twice", "single", "kept", "place", "at", "other", "left", "row", "variant"]
theorem sc_dealt : FnScope N_dealt ["allocations"] (defScope s_dealt) := ⟨rfl, rfl, rfl, by decide +kernel, rfl, by decide +kernel, by decide +kernel⟩
abbrev s_table_of_three : Stmt := topS 24
abbrev N_table_of_three : List Str := ["first", "second", "third", "triples", "place", "triple"]
theorem sc_table_of_three : FnScope N_table_of_three ["first", "second", "third"] (defScope s_table_of_three) := ⟨rfl, rfl, rfl, by decide +kernel, rfl, by decide +kernel, by decide +kernel⟩
abbrev s_all_different : Stmt := topS 25
abbrev N_all_different : List Str := ["first", "second", "third"]
theorem sc_all_different : FnScope N_all_different ["first", "second", "third"] (defScope s_all_different) := ⟨rfl, rfl, rfl, by decide +kernel, rfl, by decide +kernel, by decide +kernel⟩
abbrev s__law_stream : Stmt := topS 27
abbrev N__law_stream : List Str := ["_law_script"]
theorem sc__law_stream : FnScope N__law_stream ["_law_script"] (defScope s__law_stream) := ⟨rfl, rfl, rfl, by decide +kernel, rfl, by decide +kernel, by decide +kernel⟩
abbrev s__law_next : Stmt := topS 28
abbrev N__law_next : List Str := ["_law_stream_here", "_law_many", "_law_k", "_law_cell", "_law_digit"]
theorem sc__law_next : FnScope N__law_next ["_law_stream_here", "_law_many"] (defScope s__law_next) := ⟨rfl, rfl, rfl, by decide +kernel, rfl, by decide +kernel, by decide +kernel⟩
abbrev s__law_is_integer : Stmt := topS 29
abbrev N__law_is_integer : List Str := ["_law_actual"]
theorem sc__law_is_integer : FnScope N__law_is_integer ["_law_actual"] (defScope s__law_is_integer) := ⟨rfl, rfl, rfl, by decide +kernel, rfl, by decide +kernel, by decide +kernel⟩
abbrev s__law_equal : Stmt := topS 30
abbrev N__law_equal : List Str := ["_law_actual", "_law_due", "_law_at"]
theorem sc__law_equal : FnScope N__law_equal ["_law_actual", "_law_due"] (defScope s__law_equal) := ⟨rfl, rfl, rfl, by decide +kernel, rfl, by decide +kernel, by decide +kernel⟩
abbrev s__law_sizes : Stmt := topS 31
abbrev N__law_sizes : List Str := ["_law_stream_here", "_law_variants", "_law_most"]
theorem sc__law_sizes : FnScope N__law_sizes ["_law_stream_here"] (defScope s__law_sizes) := ⟨rfl, rfl, rfl, by decide +kernel, rfl, by decide +kernel, by decide +kernel⟩
abbrev s__law_count : Stmt := topS 32
abbrev N__law_count : List Str := ["_law_assignment", "_law_variants", "_law_variant", "_law_one"]
theorem sc__law_count : FnScope N__law_count ["_law_assignment", "_law_variants"] (defScope s__law_count) := ⟨rfl, rfl, rfl, by decide +kernel, rfl, by decide +kernel, by decide +kernel⟩
abbrev s__law_drawn : Stmt := topS 33
abbrev N__law_drawn : List Str := ["_law_stream_here", "_law_variants", "_law_buckets", "_law_k"]
theorem sc__law_drawn : FnScope N__law_drawn ["_law_stream_here", "_law_variants", "_law_buckets"] (defScope s__law_drawn) := ⟨rfl, rfl, rfl, by decide +kernel, rfl, by decide +kernel, by decide +kernel⟩
abbrev s__law_allocation : Stmt := topS 34
abbrev N__law_allocation : List Str := ["_law_stream_here", "_law_variants", "_law_buckets"]
theorem sc__law_allocation : FnScope N__law_allocation ["_law_stream_here", "_law_variants", "_law_buckets"] (defScope s__law_allocation) := ⟨rfl, rfl, rfl, by decide +kernel, rfl, by decide +kernel, by decide +kernel⟩
abbrev s__law_three : Stmt := topS 35
abbrev N__law_three : List Str := ["_law_stream_here", "_law_variants", "_law_buckets", "_law_k"]
theorem sc__law_three : FnScope N__law_three ["_law_stream_here", "_law_variants", "_law_buckets"] (defScope s__law_three) := ⟨rfl, rfl, rfl, by decide +kernel, rfl, by decide +kernel, by decide +kernel⟩
abbrev s__law_all : Stmt := topS 36
abbrev N__law_all : List Str := ["_law_variants", "_law_buckets", "_law_found", "_law_k", "_law_longer", "_law_row", "_law_variant"]
theorem sc__law_all : FnScope N__law_all ["_law_variants", "_law_buckets"] (defScope s__law_all) := ⟨rfl, rfl, rfl, by decide +kernel, rfl, by decide +kernel, by decide +kernel⟩
abbrev s__law_of : Stmt := topS 37
abbrev N__law_of : List Str := ["_law_allocation_here", "_law_row"]
theorem sc__law_of : FnScope N__law_of ["_law_allocation_here"] (defScope s__law_of) := ⟨rfl, rfl, rfl, by decide +kernel, rfl, by decide +kernel, by decide +kernel⟩
abbrev s__law_churn : Stmt := topS 38
abbrev N__law_churn : List Str := ["_law_one", "_law_other", "_law_k"]
theorem sc__law_churn : FnScope N__law_churn ["_law_one", "_law_other"] (defScope s__law_churn) := ⟨rfl, rfl, rfl, by decide +kernel, rfl, by decide +kernel, by decide +kernel⟩
abbrev s__law_transfer : Stmt := topS 39
abbrev N__law_transfer : List Str := ["_law_one", "_law_other", "_law_k"]
theorem sc__law_transfer : FnScope N__law_transfer ["_law_one", "_law_other"] (defScope s__law_transfer) := ⟨rfl, rfl, rfl, by decide +kernel, rfl, by decide +kernel, by decide +kernel⟩
abbrev s__law_least : Stmt := topS 40
abbrev N__law_least : List Str := ["_law_one", "_law_allocation_here", "_law_other", "_law_to"]
theorem sc__law_least : FnScope N__law_least ["_law_one", "_law_allocation_here", "_law_other", "_law_to"] (defScope s__law_least) := ⟨rfl, rfl, rfl, by decide +kernel, rfl, by decide +kernel, by decide +kernel⟩
abbrev s__law_different : Stmt := topS 41
abbrev N__law_different : List Str := ["_law_one", "_law_two", "_law_three_here", "_law_k"]
theorem sc__law_different : FnScope N__law_different ["_law_one", "_law_two", "_law_three_here"] (defScope s__law_different) := ⟨rfl, rfl, rfl, by decide +kernel, rfl, by decide +kernel, by decide +kernel⟩
abbrev s__law_tables : Stmt := topS 42
abbrev N__law_tables : List Str := ["_law_one", "_law_three_here", "_law_found", "_law_two", "_law_last"]
theorem sc__law_tables : FnScope N__law_tables ["_law_one", "_law_three_here"] (defScope s__law_tables) := ⟨rfl, rfl, rfl, by decide +kernel, rfl, by decide +kernel, by decide +kernel⟩
abbrev s_law : Stmt := topS 43
abbrev N_law : List Str := ["_law_script", "_law_stream_here", "_law_variants", "_law_buckets", "_law_three_here", "_law_one", "_law_tables_here", "_law_told", "_law_number", "_law_k", "_law_row", "_law_a", "_law_b", "_law_item"]
theorem sc_law : FnScope N_law ["_law_script"] (defScope s_law) := ⟨rfl, rfl, rfl, by decide +kernel, rfl, by decide +kernel, by decide +kernel⟩
structure Txt (K : PySem.W.Frag) (mg : Str → Option Value) where
  is_whole : Defn K mg "is_whole" s_is_whole ["value"]
  is_between : Defn K mg "is_between" s_is_between ["value", "low", "high"]
  is_allocation : Defn K mg "is_allocation" s_is_allocation ["value", "variants", "buckets"]
  check_allocation : Defn K mg "check_allocation" s_check_allocation ["value", "name"]
  check_alike : Defn K mg "check_alike" s_check_alike ["value", "first", "name"]
  medians : Defn K mg "medians" s_medians ["first", "second", "third"]
  is_some_allocation : Defn K mg "is_some_allocation" s_is_some_allocation ["value"]
  check_like : Defn K mg "check_like" s_check_like ["model", "others"]
  check_three : Defn K mg "check_three" s_check_three ["first", "second", "third"]
  extra : Defn K mg "extra" s_extra ["allocations"]
  repeated : Defn K mg "repeated" s_repeated ["counts"]
  twice_at : Defn K mg "twice_at" s_twice_at ["allocations", "place"]
  single_at : Defn K mg "single_at" s_single_at ["allocations", "place"]
  with_single : Defn K mg "with_single" s_with_single ["place", "single", "other"]
  dealt : Defn K mg "dealt" s_dealt ["allocations"]
  table_of_three : Defn K mg "table_of_three" s_table_of_three ["first", "second", "third"]
  all_different : Defn K mg "all_different" s_all_different ["first", "second", "third"]
  _law_stream : Defn K mg "_law_stream" s__law_stream ["_law_script"]
  _law_next : Defn K mg "_law_next" s__law_next ["_law_stream_here", "_law_many"]
  _law_is_integer : Defn K mg "_law_is_integer" s__law_is_integer ["_law_actual"]
  _law_equal : Defn K mg "_law_equal" s__law_equal ["_law_actual", "_law_due"]
  _law_sizes : Defn K mg "_law_sizes" s__law_sizes ["_law_stream_here"]
  _law_count : Defn K mg "_law_count" s__law_count ["_law_assignment", "_law_variants"]
  _law_drawn : Defn K mg "_law_drawn" s__law_drawn ["_law_stream_here", "_law_variants", "_law_buckets"]
  _law_allocation : Defn K mg "_law_allocation" s__law_allocation ["_law_stream_here", "_law_variants", "_law_buckets"]
  _law_three : Defn K mg "_law_three" s__law_three ["_law_stream_here", "_law_variants", "_law_buckets"]
  _law_all : Defn K mg "_law_all" s__law_all ["_law_variants", "_law_buckets"]
  _law_of : Defn K mg "_law_of" s__law_of ["_law_allocation_here"]
  _law_churn : Defn K mg "_law_churn" s__law_churn ["_law_one", "_law_other"]
  _law_transfer : Defn K mg "_law_transfer" s__law_transfer ["_law_one", "_law_other"]
  _law_least : Defn K mg "_law_least" s__law_least ["_law_one", "_law_allocation_here", "_law_other", "_law_to"]
  _law_different : Defn K mg "_law_different" s__law_different ["_law_one", "_law_two", "_law_three_here"]
  _law_tables : Defn K mg "_law_tables" s__law_tables ["_law_one", "_law_three_here"]
  law : Defn K mg "law" s_law ["_law_script"]
  n_abs : mg "abs" = none
  n_all : mg "all" = none
  n_bool : mg "bool" = none
  n_enumerate : mg "enumerate" = none
  n_int : mg "int" = none
  n_isinstance : mg "isinstance" = none
  n_len : mg "len" = none
  n_list : mg "list" = none
  n_max : mg "max" = none
  n_min : mg "min" = none
  n_range : mg "range" = none
  n_sorted : mg "sorted" = none
  n_str : mg "str" = none
  n_sum : mg "sum" = none
  n_tuple : mg "tuple" = none
  n_zip : mg "zip" = none
  t_MOST_VARIANTS_allocations : Tok
  MOST_VARIANTS_allocations : mg "MOST_VARIANTS_allocations" = some (.int 5 t_MOST_VARIANTS_allocations)
  t_MOST_BUCKETS_allocations : Tok
  MOST_BUCKETS_allocations : mg "MOST_BUCKETS_allocations" = some (.int 20 t_MOST_BUCKETS_allocations)
  t_MOST_VARIANTS_triples : Tok
  MOST_VARIANTS_triples : mg "MOST_VARIANTS_triples" = some (.int 5 t_MOST_VARIANTS_triples)
  t_MOST_BUCKETS_triples : Tok
  MOST_BUCKETS_triples : mg "MOST_BUCKETS_triples" = some (.int 20 t_MOST_BUCKETS_triples)
end LmW
/-! the defs of allocations.py. -/
namespace LmW
open PySem PySem.Spec PyProof.Rows L2
section
variable {P : Program} {w : World} {K : PySem.W.Frag} {mg : Str → Option Value} {base : Heap}
def sp_is_whole : Sp := fun vs H Q _ => ∃ i : Int, vs = [.int i] ∧ Q (.bl true) H
theorem ok_is_whole (T : Txt K mg) : Ok P w base 1 T.is_whole sp_is_whole := by
  have nd := sc_is_whole.nd
  refine T.is_whole.F.ok sc_is_whole (fun vs H Q E h => ?_) (fun cdv A outer s H vs Q E hr h => ?_)
  · obtain ⟨i, rfl, _⟩ := h
    rfl
  · obtain ⟨i, rfl, q⟩ := h
    refine ⟨_, (pss_one (ps_ret (pe_and (pe_callB (r := rIsi K) call_isi (by rfl) T.n_isinstance (by decide +kernel) (pa_cons (pv 0) (pa_cons (pe_bltn (v := .ty "int") (by rfl) T.n_int (by decide +kernel) rfl) pa_nil))) (pe_one (pe_not (pe_callB (r := rIsi K) call_isi (by rfl) T.n_isinstance (by decide +kernel) (pa_cons (pv 0) (pa_cons (pe_bltn (v := .ty "bool") (by rfl) T.n_bool (by decide +kernel) rfl) pa_nil)))))))), ?_⟩
    refine ⟨.int i, rfl, .int i, .ty "int", _, _, true, rfl, .ty "int", .base (.int i), kit_ty (by decide +kernel), true, rfl, iteT ?_⟩
    exact ⟨.int i, rfl, .int i, .ty "bool", _, _, false, rfl, .ty "bool", .base (.int i), kit_ty (by decide +kernel), false, rfl, q⟩
def sp_is_between : Sp := fun vs H Q _ => ∃ i lo hi : Int, vs = [.int i, .int lo, .int hi] ∧ lo ≤ i ∧ i ≤ hi ∧ Q (.bl true) H
theorem ok_is_between (T : Txt K mg) : Ok P w base 2 T.is_between sp_is_between := by
  have nd := sc_is_between.nd
  refine T.is_between.F.ok sc_is_between (fun vs H Q E h => ?_) (fun cdv A outer s H vs Q E hr h => ?_)
  · obtain ⟨i, lo, hi, rfl, _⟩ := h
    rfl
  · obtain ⟨i, lo, hi, rfl, h1, h2, q⟩ := h
    refine ⟨_, (pss_one (ps_ret (pe_and (pe_call (ok_is_whole T) (hr.mono (by decide)) rfl T.is_whole.g T.is_whole.F.kp T.is_whole.B .nil pass0 (pa_cons (pv 0) pa_nil)) (pe_one (pe_chain op_le op_le (pv 1) (pv 0) (pv 2)))))), ?_⟩
    refine ⟨.int i, rfl, i, rfl, true, rfl, iteT ?_⟩
    refine ⟨.int lo, rfl, .int i, rfl, lo, i, rfl, rfl, true, ?_, iteT ?_⟩
    · exact congrArg V.bl (decide_eq_true h1)
    · refine ⟨.int hi, rfl, i, hi, rfl, rfl, ?_⟩
      show Q (.bl (decide (i ≤ hi))) H
      rw [decide_eq_true h2]
      exact q
/-- an allocation -/
def Alloc (ns : List Int) (k : Nat) (n : Int) : Prop := ns.length = k ∧ (∀ x ∈ ns, 0 ≤ x) ∧ ns.sum = n
def sp_is_allocation : Sp := fun vs H Q _ => ∃ (v : V) (ns : List Int) (k : Nat) (n : Int), vs = [v, .int k, .int n] ∧ TI ns v H ∧ Alloc ns k n ∧ k ≤ 100 ∧ ∀ H', Same H H' → Q (.bl true) H'
theorem ok_is_allocation (T : Txt K mg) : Ok P w base 2 T.is_allocation sp_is_allocation := by
  have nd := sc_is_allocation.nd
  refine T.is_allocation.F.ok sc_is_allocation (fun vs H Q E h => ?_) (fun cdv A outer s H vs Q E hr h => ?_)
  · obtain ⟨v, ns, k, n, rfl, _⟩ := h
    rfl
  · obtain ⟨v, ns, k, n, rfl, ⟨a, rfl, hv⟩, ⟨hl, h0, hs⟩, hk, q⟩ := h
    refine ⟨_, (pss_cons (ps_if (PW.pt (pw_or (pt_not (pt_val (pe_callB (r := rIsi K) call_isi (by rfl) T.n_isinstance (by decide +kernel) (pa_cons (pv 0) (pa_cons (pe_bltn (v := .ty "tuple") (by rfl) T.n_tuple (by decide +kernel) rfl) pa_nil))))) (pw_or1 (pt_cmpR op_ne (pe_callB (r := rLen K) call_len_seq (by rfl) T.n_len (by decide +kernel) (pa_cons (pv 0) pa_nil)) (pv 1) (nomark _))))) (pss_one (ps_ret pe_bl)) pss_nil)
      (pss_one (ps_ret (pe_and (pe_callB (r := rAll K) (cr_all rfl) (by rfl) T.n_all (by decide +kernel) (pa_cons (pe_lc (own := [("share", 3)]) (g := gName 3) (tt := tYes) rfl nd (pi_tup (pv 0)) (blkOk_by (by kernel_rfl)) (fun _ _ _ _ _ => (pg_name (i := 3) nd rfl (by first | exact .inl rfl | exact .inr rfl))) (fun _ _ _ _ _ => pts_nil) (fun _ _ _ _ _ => (pe_and (pe_call (ok_is_whole T) (hr.mono (by decide)) rfl T.is_whole.g T.is_whole.F.kp T.is_whole.B .nil pass0 (pa_cons (pv 3) pa_nil)) (pe_one (pe_cmpR op_ge (pv 3) pe_int (nomark _)))))) pa_nil)) (pe_one (pe_cmpR op_eq (pe_callB (r := rSumT K) (LmR.cr_sumT rfl) (by rfl) T.n_sum (by decide +kernel) (pa_cons (pv 0) pa_nil)) (pv 2) (nomark _))))))), ?_⟩
    have hT : SqT K H a (ns.map V.int) := SqT.of hv
    -- if not isinstance(value, tuple) or len(value) != variants
    refine ⟨.ref a, rfl, .ref a, .ty "tuple", _, _, true, rfl, .ty "tuple", .base (.tup hv), kit_ty (by decide +kernel), true, rfl, iteF ?_⟩
    refine ⟨.ref a, rfl, a, _, rfl, .inr hT, .int k, rfl, rfl, false, ?_, iteF ?_⟩
    · rw [List.length_map, hl]
      simp
    -- all([..])
    refine ⟨.ref a, rfl, a, rfl, ⟨_, hT⟩, fun D hD => ?_⟩
    refine lc_vals walk_tup hD (fun H' e => SqT.of (e a _ hv)) yat_same (fun _ => .bl true) (by rw [List.length_map]; omega) (fun _ => rfl) (fun i x H1 H2 hi e y K1 k1 => ?_) fun H' e hq => ?_
    · obtain ⟨rfl, hx⟩ := y
      rw [List.getElem?_map] at hx
      obtain ⟨z, hz, rfl⟩ := Option.map_eq_some_iff.mp hx
      have z0 : 0 ≤ z := h0 z (List.mem_of_getElem? hz)
      refine ⟨.int z, rfl, z, rfl, true, rfl, iteT ⟨.int z, rfl, z, 0, rfl, rfl, ?_⟩⟩
      show K1 (.bl (decide (0 ≤ z))) H2
      rw [decide_eq_true z0]
      exact k1 H2 (Same.refl _)
    · refine ⟨D, (List.range (ns.map V.int).length).map (fun _ => true), rfl, SqL.of ?_, ?_⟩
      · rw [List.map_map]
        exact hq
      · have ea : ((List.range (ns.map V.int).length).map (fun _ => true)).all id = true := by simp
        rw [ea]
        refine ⟨true, rfl, iteT ?_⟩
        refine ⟨.ref a, rfl, a, ns, rfl, SqT.of (e a _ hv), .int n, rfl, rfl, ?_⟩
        rw [hs, decide_eq_true rfl]
        exact q H' e
end
end LmW
/-! The plain law of tables of three: counts over lists, no program in sight. -/
namespace Lm

def pmin (x y : Int) : Int := if y < x then y else x
def pmax (x y : Int) : Int := if y > x then y else x
def med (x y z : Int) : Int := pmax (pmin x y) (pmin (pmax x y) z)

/-! ### sums -/
/-- the sum of f over 0 .. K - 1 -/
def S (K : Nat) (f : Nat → Int) : Int := ((List.range K).map f).sum
theorem S_zero (f : Nat → Int) : S 0 f = 0 := rfl
theorem S_succ (K : Nat) (f : Nat → Int) : S (K + 1) f = S K f + f K := by
  unfold S
  rw [List.range_succ, List.map_append, List.sum_append]
  simp
theorem S_add {K : Nat} {f g h : Nat → Int} (e : ∀ v, v < K → f v = g v + h v) : S K f = S K g + S K h := by
  induction K with
  | zero => rfl
  | succ K ih =>
    have e1 := ih fun v hv => e v (by omega)
    have e2 := e K (by omega)
    rw [S_succ, S_succ, S_succ]
    omega
theorem S_congr {K : Nat} {f g : Nat → Int} (e : ∀ v, v < K → f v = g v) : S K f = S K g := by
  induction K with
  | zero => rfl
  | succ K ih =>
    have e1 := ih fun v hv => e v (by omega)
    have e2 := e K (by omega)
    rw [S_succ, S_succ]
    omega
theorem S_le {K : Nat} {f g : Nat → Int} (e : ∀ v, v < K → f v ≤ g v) : S K f ≤ S K g := by
  induction K with
  | zero => exact Int.le_refl _
  | succ K ih =>
    have e1 := ih fun v hv => e v (by omega)
    have e2 := e K (by omega)
    rw [S_succ, S_succ]
    omega
theorem S_tight {K : Nat} {f g : Nat → Int} (e : ∀ v, v < K → f v ≤ g v) (h : S K g ≤ S K f) : ∀ v, v < K → f v = g v := by
  induction K with
  | zero => exact fun v hv => absurd hv (Nat.not_lt_zero _)
  | succ K ih =>
    have e1 := S_le fun v (hv : v < K) => e v (by omega)
    have e2 := e K (by omega)
    rw [S_succ, S_succ] at h
    intro v hv
    by_cases hk : v = K
    · subst hk; omega
    · exact ih (fun u hu => e u (by omega)) (by omega) v (by omega)
theorem S_nil (K : Nat) : S K (fun _ => 0) = 0 := by
  induction K with
  | zero => rfl
  | succ K ih => rw [S_succ, ih]; rfl
theorem S_nonneg {K : Nat} {f : Nat → Int} (e : ∀ v, v < K → 0 ≤ f v) : 0 ≤ S K f := by
  have := S_le (K := K) (f := fun _ => 0) (g := f) e
  rw [S_nil] at this
  exact this
/-- one place picked -/
theorem S_pick (K : Nat) (x : Int) (c : Int) (h0 : 0 ≤ x) (h1 : x < (K : Int)) : S K (fun v => if x = (v : Int) then c else 0) = c := by
  induction K with
  | zero => exact absurd h1 (by omega)
  | succ K ih =>
    rw [S_succ]
    by_cases hk : x = (K : Int)
    · rw [if_pos hk]
      have : S K (fun v => if x = (v : Int) then c else 0) = S K (fun _ => 0) := S_congr fun v hv => if_neg (by omega)
      rw [this, S_nil]
      omega
    · rw [if_neg hk, ih (by omega)]
      omega

section
variable {α : Type}
/-- the sum of f over a list -/
def L (T : List α) (f : α → Int) : Int := (T.map f).sum
theorem L_nil (f : α → Int) : L [] f = 0 := rfl
theorem L_cons (t : α) (T : List α) (f : α → Int) : L (t :: T) f = f t + L T f := by
  unfold L
  rw [List.map_cons, List.sum_cons]
theorem L_app (T U : List α) (f : α → Int) : L (T ++ U) f = L T f + L U f := by
  unfold L
  rw [List.map_append, List.sum_append]
theorem L_congr {T : List α} {f g : α → Int} (e : ∀ t ∈ T, f t = g t) : L T f = L T g := by
  induction T with
  | nil => rfl
  | cons t T ih =>
    rw [L_cons, L_cons, e t List.mem_cons_self, ih fun u hu => e u (List.mem_cons_of_mem _ hu)]
theorem L_add {T : List α} {f g h : α → Int} (e : ∀ t ∈ T, f t = g t + h t) : L T f = L T g + L T h := by
  induction T with
  | nil => rfl
  | cons t T ih =>
    have e1 := e t List.mem_cons_self
    have e2 := ih fun u hu => e u (List.mem_cons_of_mem _ hu)
    rw [L_cons, L_cons, L_cons]
    omega
theorem L_le {T : List α} {f g : α → Int} (e : ∀ t ∈ T, f t ≤ g t) : L T f ≤ L T g := by
  induction T with
  | nil => exact Int.le_refl _
  | cons t T ih =>
    have e1 := e t List.mem_cons_self
    have e2 := ih fun u hu => e u (List.mem_cons_of_mem _ hu)
    rw [L_cons, L_cons]
    omega
theorem L_one (T : List α) : L T (fun _ => 1) = (T.length : Int) := by
  induction T with
  | nil => rfl
  | cons t T ih => rw [L_cons, ih, List.length_cons]; omega
theorem L_map {β : Type} (T : List β) (k : β → α) (f : α → Int) : L (T.map k) f = L T (fun t => f (k t)) := by
  unfold L
  rw [List.map_map]
  rfl
theorem L_perm {T U : List α} (p : T.Perm U) (f : α → Int) : L T f = L U f := by
  induction p with
  | nil => rfl
  | cons t _ ih => rw [L_cons, L_cons, ih]
  | swap t u T => rw [L_cons, L_cons, L_cons, L_cons]; omega
  | trans _ _ ih1 ih2 => exact ih1.trans ih2
/-- the two sums change places -/
theorem SL_swap (K : Nat) (T : List α) (f : Nat → α → Int) : S K (fun v => L T (f v)) = L T (fun t => S K (fun v => f v t)) := by
  induction T with
  | nil => exact S_nil K
  | cons t T ih =>
    rw [L_cons, ← ih]
    exact S_add fun v _ => L_cons _ _ _
end

/-! ### counts -/
def cnt (row : List Int) (v : Int) : Int := L row (fun x => if x = v then 1 else 0)
theorem cnt_app (r s : List Int) (v : Int) : cnt (r ++ s) v = cnt r v + cnt s v := L_app _ _ _
theorem cnt_nonneg (r : List Int) (v : Int) : 0 ≤ cnt r v := by
  have h : L r (fun _ => 0) ≤ cnt r v := L_le fun t _ => by split <;> omega
  have e : L r (fun _ => 0) = 0 := by
    induction r with
    | nil => rfl
    | cons t r ih => rw [L_cons, ih (by exact L_le fun t _ => by split <;> omega)]; rfl
  omega
theorem cnt_rep (k : Nat) (x v : Int) : cnt (List.replicate k x) v = if x = v then (k : Int) else 0 := by
  induction k with
  | zero => simp [cnt, L]
  | succ k ih =>
    rw [List.replicate_succ]
    show L _ _ = _
    rw [L_cons]
    have ih' : L (List.replicate k x) (fun y => if y = v then 1 else 0) = if x = v then (k : Int) else 0 := ih
    rw [ih']
    split <;> omega
/-- each index as often as f says -/
def rp (f : Nat → Int) : Nat → List Int
  | 0 => []
  | i + 1 => rp f i ++ List.replicate (f i).toNat (i : Int)
theorem rp_len {f : Nat → Int} (h : ∀ v, 0 ≤ f v) (K : Nat) : ((rp f K).length : Int) = S K f := by
  induction K with
  | zero => rfl
  | succ K ih =>
    have := h K
    rw [S_succ, ← ih]
    show ((rp f K ++ List.replicate (f K).toNat (K : Int)).length : Int) = _
    rw [List.length_append, List.length_replicate]
    omega
theorem rp_mem {f : Nat → Int} {K : Nat} {x : Int} (h : x ∈ rp f K) : 0 ≤ x ∧ x < (K : Int) := by
  induction K with
  | zero => exact absurd h List.not_mem_nil
  | succ K ih =>
    rcases List.mem_append.mp (show x ∈ rp f K ++ List.replicate (f K).toNat (K : Int) from h) with h | h
    · have := ih h
      omega
    · have := (List.mem_replicate.mp h).2
      omega
theorem rp_out {f : Nat → Int} {K : Nat} {v : Int} (h : (K : Int) ≤ v) : cnt (rp f K) v = 0 := by
  induction K with
  | zero => rfl
  | succ K ih =>
    show cnt (rp f K ++ List.replicate (f K).toNat (K : Int)) v = 0
    rw [cnt_app, ih (by omega), cnt_rep, if_neg (by omega)]
    rfl
theorem rp_cnt {f : Nat → Int} (h : ∀ v, 0 ≤ f v) {K v : Nat} (hv : v < K) : cnt (rp f K) (v : Int) = f v := by
  induction K with
  | zero => exact absurd hv (Nat.not_lt_zero _)
  | succ K ih =>
    show cnt (rp f K ++ List.replicate (f K).toNat (K : Int)) (v : Int) = f v
    rw [cnt_app, cnt_rep]
    by_cases hk : v = K
    · subst hk
      have := h v
      rw [rp_out (Int.le_refl _), if_pos rfl]
      omega
    · rw [if_neg (by omega), ih (by omega)]
      omega

/-! ### rows by three, as one list of triples -/
abbrev Tr := Int × Int × Int
def Rng (K : Nat) (x : Int) : Prop := 0 ≤ x ∧ x < (K : Int)
def InK (K : Nat) (t : Tr) : Prop := Rng K t.1 ∧ Rng K t.2.1 ∧ Rng K t.2.2
def ne2 (x y : Int) : Int := if x = y then 0 else 1
def ne3 (x y z : Int) : Int := if x = y ∨ y = z ∨ x = z then 0 else 1
def pos (x : Int) : Int := if x > 0 then x else 0
/-- both are v -/
def bo (x y v : Int) : Int := if x = v then (if y = v then 1 else 0) else 0
def al (x y z v : Int) : Int := if x = v then (if y = v then (if z = v then 1 else 0) else 0) else 0
theorem bo_sum {K : Nat} {x y : Int} (hx : Rng K x) (hy : Rng K y) : S K (fun v => bo x y (v : Int)) = 1 - ne2 x y := by
  have e : S K (fun v => bo x y (v : Int)) = S K (fun v => if x = (v : Int) then (1 - ne2 x y) else 0) := S_congr fun v _ => by
    unfold bo ne2
    by_cases h : x = (v : Int)
    · subst h
      by_cases h2 : y = (v : Int)
      · subst h2; simp
      · rw [if_pos rfl, if_neg h2, if_pos rfl, if_neg (fun z => h2 z.symm)]; rfl
    · rw [if_neg h, if_neg h]
  rw [e, S_pick K x _ hx.1 hx.2]
theorem al_sum {K : Nat} {x y z : Int} (hx : Rng K x) (hy : Rng K y) (hz : Rng K z) :
    S K (fun v => bo x y (v : Int)) + S K (fun v => bo y z (v : Int)) + S K (fun v => bo x z (v : Int)) = S K (fun v => al x y z (v : Int)) + S K (fun v => al x y z (v : Int)) + (1 - ne3 x y z) := by
  have e : S K (fun v => al x y z (v : Int)) = (if x = y ∧ y = z then 1 else 0) := by
    have e : S K (fun v => al x y z (v : Int)) = S K (fun v => if x = (v : Int) then (if x = y ∧ y = z then 1 else 0) else 0) := S_congr fun v _ => by
      unfold al
      by_cases h : x = (v : Int)
      · subst h
        rw [if_pos rfl, if_pos rfl]
        by_cases h2 : y = (v : Int)
        · subst h2
          rw [if_pos rfl]
          by_cases h3 : z = (v : Int)
          · subst h3; simp
          · rw [if_neg h3, if_neg (fun q => h3 q.2.symm)]
        · rw [if_neg h2, if_neg (fun q => h2 q.1.symm)]
      · rw [if_neg h, if_neg h]
    rw [e, S_pick K x _ hx.1 hx.2]
  rw [e, bo_sum hx hy, bo_sum hy hz, bo_sum hx hz]
  unfold ne2 ne3
  by_cases h1 : x = y
  · subst h1
    by_cases h2 : x = z
    · subst h2; simp
    · simp [h2]
  · by_cases h2 : y = z
    · subst h2; simp [h1]
    · by_cases h3 : x = z
      · subst h3
        have : ¬ (x = y ∧ y = x) := fun q => h1 q.1
        simp [h1, h2]
      · simp [h1, h2, h3]

section
variable {α : Type} {T : List α} {K : Nat} {p q r : α → Int}
/-- at most the lesser count agrees -/
theorem bo_le (v : Int) : L T (fun t => bo (p t) (q t) v) ≤ pmin (cnt (T.map p) v) (cnt (T.map q) v) := by
  have h1 : L T (fun t => bo (p t) (q t) v) ≤ cnt (T.map p) v := by
    unfold cnt
    rw [L_map]
    exact L_le fun t _ => by unfold bo; split <;> (try split) <;> omega
  have h2 : L T (fun t => bo (p t) (q t) v) ≤ cnt (T.map q) v := by
    unfold cnt
    rw [L_map]
    exact L_le fun t _ => by unfold bo; split <;> split <;> omega
  unfold pmin
  split <;> omega
theorem agree (hp : ∀ t ∈ T, Rng K (p t)) (hq : ∀ t ∈ T, Rng K (q t)) : S K (fun v => L T (fun t => bo (p t) (q t) (v : Int))) = (T.length : Int) - L T (fun t => ne2 (p t) (q t)) := by
  rw [SL_swap K T (fun v t => bo (p t) (q t) (v : Int))]
  have e : L T (fun _ => 1) = L T (fun t => S K (fun v => bo (p t) (q t) (v : Int))) + L T (fun t => ne2 (p t) (q t)) := L_add fun t ht => by
    rw [bo_sum (hp t ht) (hq t ht)]
    omega
  rw [L_one] at e
  omega
theorem all_cnt (hp : ∀ t ∈ T, Rng K (p t)) : S K (fun v => cnt (T.map p) (v : Int)) = (T.length : Int) := by
  have e : S K (fun v => cnt (T.map p) (v : Int)) = S K (fun v => L T (fun t => bo (p t) (p t) (v : Int))) := S_congr fun v _ => by
    unfold cnt
    rw [L_map]
    exact L_congr fun t _ => by unfold bo; split <;> rfl
  rw [e, agree hp hp]
  have : L T (fun t => ne2 (p t) (p t)) = 0 := by
    clear hp e
    induction T with
    | nil => rfl
    | cons t T ih =>
      rw [L_cons, ih]
      simp [ne2]
  omega
/-- a change that moves no more than it must: every count agrees -/
theorem tight {A B : Nat → Int} (hp : ∀ t ∈ T, Rng K (p t)) (hq : ∀ t ∈ T, Rng K (q t)) (hA : ∀ v, v < K → cnt (T.map p) (v : Int) = A v) (hB : ∀ v, v < K → cnt (T.map q) (v : Int) = B v)
    (h : L T (fun t => ne2 (p t) (q t)) = S K (fun v => pos (A v - B v))) : ∀ v, v < K → L T (fun t => bo (p t) (q t) (v : Int)) = pmin (A v) (B v) := by
  have hn := all_cnt hp
  have e1 : S K A = S K (fun v => pmin (A v) (B v)) + S K (fun v => pos (A v - B v)) := S_add fun v _ => by
    unfold pmin pos
    split <;> split <;> omega
  have e2 : S K (fun v => cnt (T.map p) (v : Int)) = S K A := S_congr hA
  refine S_tight (fun v hv => ?_) ?_
  · rw [← hA v hv, ← hB v hv]
    exact bo_le _
  · rw [agree hp hq]
    omega
/-- the other way round: enough agrees -/
theorem loose {A B : Nat → Int} (hp : ∀ t ∈ T, Rng K (p t)) (hq : ∀ t ∈ T, Rng K (q t)) (hA : ∀ v, v < K → cnt (T.map p) (v : Int) = A v) (hB : ∀ v, v < K → cnt (T.map q) (v : Int) = B v)
    (h : L T (fun t => ne2 (p t) (q t)) ≤ (T.length : Int) - S K (fun v => pmin (A v) (B v))) : L T (fun t => ne2 (p t) (q t)) = S K (fun v => pos (A v - B v)) := by
  have hn := all_cnt hp
  have e1 : S K A = S K (fun v => pmin (A v) (B v)) + S K (fun v => pos (A v - B v)) := S_add fun v _ => by
    unfold pmin pos
    split <;> split <;> omega
  have e2 : S K (fun v => cnt (T.map p) (v : Int)) = S K A := S_congr hA
  have e3 := agree hp hq
  have e4 : S K (fun v => L T (fun t => bo (p t) (q t) (v : Int))) ≤ S K (fun v => pmin (A v) (B v)) := S_le fun v hv => by
    rw [← hA v hv, ← hB v hv]
    exact bo_le _
  omega
theorem bo_comm (x y v : Int) : bo x y v = bo y x v := by
  unfold bo
  split <;> split <;> rfl
/-- M1: in a table of three the buckets with three different variants are as many as the buckets less the medians -/
theorem table_diff {A B C : Nat → Int} (hp : ∀ t ∈ T, Rng K (p t)) (hq : ∀ t ∈ T, Rng K (q t)) (hr : ∀ t ∈ T, Rng K (r t))
    (hA : ∀ v, v < K → cnt (T.map p) (v : Int) = A v) (hB : ∀ v, v < K → cnt (T.map q) (v : Int) = B v) (hC : ∀ v, v < K → cnt (T.map r) (v : Int) = C v)
    (h1 : L T (fun t => ne2 (p t) (q t)) = S K (fun v => pos (A v - B v))) (h2 : L T (fun t => ne2 (p t) (r t)) = S K (fun v => pos (A v - C v))) (h3 : L T (fun t => ne2 (q t) (r t)) = S K (fun v => pos (B v - C v))) :
    L T (fun t => ne3 (p t) (q t) (r t)) = (T.length : Int) - S K (fun v => med (A v) (B v) (C v)) := by
  have t1 := tight hp hq hA hB h1
  have t2 := tight hp hr hA hC h2
  have t3 := tight hq hr hB hC h3
  have key : ∀ v, v < K → L T (fun t => bo (p t) (q t) (v : Int)) + L T (fun t => bo (q t) (r t) (v : Int)) + L T (fun t => bo (p t) (r t) (v : Int)) =
      (L T (fun t => al (p t) (q t) (r t) (v : Int)) + L T (fun t => al (p t) (q t) (r t) (v : Int))) + med (A v) (B v) (C v) := fun v hv => by
    have a1 := t1 v hv
    have a2 := t2 v hv
    have a3 := t3 v hv
    have le1 : L T (fun t => al (p t) (q t) (r t) (v : Int)) ≤ L T (fun t => bo (p t) (q t) (v : Int)) := L_le fun t _ => by unfold al bo; omega
    have le2 : L T (fun t => al (p t) (q t) (r t) (v : Int)) ≤ L T (fun t => bo (p t) (r t) (v : Int)) := L_le fun t _ => by unfold al bo; omega
    have le3 : L T (fun t => al (p t) (q t) (r t) (v : Int)) ≤ L T (fun t => bo (q t) (r t) (v : Int)) := L_le fun t _ => by unfold al bo; omega
    have ge : ∀ (i j k : α → Int) (D : Int), cnt (T.map i) (v : Int) = D → L T (fun t => bo (i t) (j t) (v : Int)) + L T (fun t => bo (i t) (k t) (v : Int)) ≤ L T (fun t => al (i t) (j t) (k t) (v : Int)) + D := fun i j k D hD => by
      rw [← hD]
      unfold cnt
      rw [L_map]
      have e1 : L T (fun t => bo (i t) (j t) (v : Int) + bo (i t) (k t) (v : Int)) = L T (fun t => bo (i t) (j t) (v : Int)) + L T (fun t => bo (i t) (k t) (v : Int)) := L_add fun _ _ => rfl
      have e2 : L T (fun t => al (i t) (j t) (k t) (v : Int) + (if i t = (v : Int) then 1 else 0)) = L T (fun t => al (i t) (j t) (k t) (v : Int)) + L T (fun t => if i t = (v : Int) then 1 else 0) := L_add fun _ _ => rfl
      rw [← e1, ← e2]
      exact L_le fun t _ => by unfold al bo; omega
    have sw : ∀ (i j : α → Int), L T (fun t => bo (i t) (j t) (v : Int)) = L T (fun t => bo (j t) (i t) (v : Int)) := fun i j => L_congr fun t _ => bo_comm _ _ _
    have g1 := ge p q r (A v) (hA v hv)
    have g2 := ge q p r (B v) (hB v hv)
    have g3 := ge r p q (C v) (hC v hv)
    rw [sw q p] at g2
    rw [sw r p, sw r q] at g3
    have s2 : L T (fun t => al (q t) (p t) (r t) (v : Int)) = L T (fun t => al (p t) (q t) (r t) (v : Int)) := L_congr fun t _ => by unfold al; omega
    have s3 : L T (fun t => al (r t) (p t) (q t) (v : Int)) = L T (fun t => al (p t) (q t) (r t) (v : Int)) := L_congr fun t _ => by unfold al; omega
    rw [s2] at g2
    rw [s3] at g3
    rw [a1] at g1 g2 le1 ⊢
    rw [a2] at g1 g3 le2 ⊢
    rw [a3] at g2 g3 le3 ⊢
    generalize L T (fun t => al (p t) (q t) (r t) (v : Int)) = Z at *
    clear s2 s3 sw ge t1 t2 t3 h1 h2 h3 hA hB hC hp hq hr a1 a2 a3
    generalize A v = a at *
    generalize B v = b at *
    generalize C v = c at *
    simp only [med, pmin, pmax] at *
    omega
  -- summed over the variants
  have s0 : ∀ (f g h k m : Nat → Int), (∀ v, v < K → f v + g v + h v = (k v + k v) + m v) → S K f + S K g + S K h = (S K k + S K k) + S K m := fun f g h k m e => by
    have e1 : S K (fun v => f v + g v) = S K f + S K g := S_add fun _ _ => rfl
    have e2 : S K (fun v => f v + g v + h v) = S K (fun v => f v + g v) + S K h := S_add fun _ _ => rfl
    have e3 : S K (fun v => k v + k v) = S K k + S K k := S_add fun _ _ => rfl
    have e4 : S K (fun v => k v + k v + m v) = S K (fun v => k v + k v) + S K m := S_add fun _ _ => rfl
    have e5 := S_congr e
    omega
  have tot := s0 _ _ _ _ _ key
  rw [SL_swap K T (fun v t => bo (p t) (q t) (v : Int)), SL_swap K T (fun v t => bo (q t) (r t) (v : Int)), SL_swap K T (fun v t => bo (p t) (r t) (v : Int)), SL_swap K T (fun v t => al (p t) (q t) (r t) (v : Int))] at tot
  have u1 : L T (fun t => S K (fun v => bo (p t) (q t) (v : Int)) + S K (fun v => bo (q t) (r t) (v : Int)) + S K (fun v => bo (p t) (r t) (v : Int))) =
      L T (fun t => S K (fun v => bo (p t) (q t) (v : Int)) + S K (fun v => bo (q t) (r t) (v : Int))) + L T (fun t => S K (fun v => bo (p t) (r t) (v : Int))) := L_add fun _ _ => rfl
  have u2 : L T (fun t => S K (fun v => bo (p t) (q t) (v : Int)) + S K (fun v => bo (q t) (r t) (v : Int))) = L T (fun t => S K (fun v => bo (p t) (q t) (v : Int))) + L T (fun t => S K (fun v => bo (q t) (r t) (v : Int))) := L_add fun _ _ => rfl
  have u3 : L T (fun t => S K (fun v => bo (p t) (q t) (v : Int)) + S K (fun v => bo (q t) (r t) (v : Int)) + S K (fun v => bo (p t) (r t) (v : Int))) =
      L T (fun t => S K (fun v => al (p t) (q t) (r t) (v : Int)) + S K (fun v => al (p t) (q t) (r t) (v : Int)) + (1 - ne3 (p t) (q t) (r t))) := L_congr fun t ht => al_sum (hp t ht) (hq t ht) (hr t ht)
  have u4 : L T (fun t => S K (fun v => al (p t) (q t) (r t) (v : Int)) + S K (fun v => al (p t) (q t) (r t) (v : Int)) + (1 - ne3 (p t) (q t) (r t))) =
      L T (fun t => S K (fun v => al (p t) (q t) (r t) (v : Int)) + S K (fun v => al (p t) (q t) (r t) (v : Int))) + L T (fun t => 1 - ne3 (p t) (q t) (r t)) := L_add fun _ _ => rfl
  have u5 : L T (fun t => S K (fun v => al (p t) (q t) (r t) (v : Int)) + S K (fun v => al (p t) (q t) (r t) (v : Int))) = L T (fun t => S K (fun v => al (p t) (q t) (r t) (v : Int))) + L T (fun t => S K (fun v => al (p t) (q t) (r t) (v : Int))) := L_add fun _ _ => rfl
  have u6 : L T (fun _ => 1) = L T (fun t => 1 - ne3 (p t) (q t) (r t)) + L T (fun t => ne3 (p t) (q t) (r t)) := L_add fun _ _ => by omega
  rw [L_one] at u6
  omega
end
end Lm
namespace Lm
/-! ### the triples as they are dealt -/
def f2 (own one two : Int) : Int := pos (pmin one two - own)
def f1 (own one two : Int) : Int := pos (own - pmax one two)
def lo (x y z : Int) : Int := pmin (pmin x y) z
def twL (K : Nat) (A B C : Nat → Int) : List Int := rp (fun v => f2 (A v) (B v) (C v)) K
def siL (K : Nat) (A B C : Nat → Int) : List Int := rp (fun v => f1 (A v) (B v) (C v)) K
def loL (K : Nat) (A B C : Nat → Int) : List Int := rp (fun v => lo (A v) (B v) (C v)) K
def same (l : List Int) : List Tr := l.map fun v => (v, v, v)
def grp0 (s t : List Int) : List Tr := (List.zip s t).map fun p => (p.1, p.2, p.2)
def grp1 (s t : List Int) : List Tr := (List.zip s t).map fun p => (p.2, p.1, p.2)
def grp2 (s t : List Int) : List Tr := (List.zip s t).map fun p => (p.2, p.2, p.1)
def lft (x y z : List Int) : List Tr := List.zip x (List.zip y z)
def dl (K : Nat) (A B C : Nat → Int) : List Tr :=
  same (loL K A B C) ++ (grp0 (siL K A B C) (twL K A B C) ++ (grp1 (siL K B A C) (twL K B A C) ++ (grp2 (siL K C A B) (twL K C A B) ++
    lft ((siL K A B C).drop (twL K A B C).length) ((siL K B A C).drop (twL K B A C).length) ((siL K C A B).drop (twL K C A B).length))))

theorem f2_nonneg (x y z : Int) : 0 ≤ f2 x y z := by unfold f2 pos; split <;> omega
theorem f1_nonneg (x y z : Int) : 0 ≤ f1 x y z := by unfold f1 pos; split <;> omega
theorem zip_fst {α β : Type} : ∀ (s : List α) (t : List β), (List.zip s t).map (·.1) = s.take t.length
  | [], t => by simp
  | a :: s, [] => by simp
  | a :: s, b :: t => by
    have ih := zip_fst s t
    simp only [List.zip_cons_cons, List.map_cons, List.length_cons, List.take_succ_cons, ih]
theorem zip_snd {α β : Type} : ∀ (s : List α) (t : List β), t.length ≤ s.length → (List.zip s t).map (·.2) = t
  | s, [], _ => by cases s <;> rfl
  | [], b :: t, h => absurd h (by simp)
  | a :: s, b :: t, h => by
    have ih := zip_snd s t (by simpa using h)
    simp only [List.zip_cons_cons, List.map_cons, ih]
theorem zip_len {α β : Type} (s : List α) (t : List β) (h : t.length ≤ s.length) : (List.zip s t).length = t.length := by
  have := congrArg List.length (zip_snd s t h)
  rw [List.length_map] at this
  exact this
theorem cnt_cut (s : List Int) (k : Nat) (v : Int) : cnt (s.take k) v + cnt (s.drop k) v = cnt s v := by
  rw [← cnt_app, List.take_append_drop]
theorem lft_len {x y z : List Int} (h1 : x.length = y.length) (h2 : y.length = z.length) : (lft x y z).length = x.length := by
  unfold lft
  have e : (List.zip y z).length = z.length := zip_len _ _ (by omega)
  rw [zip_len _ _ (by omega)]
  omega
theorem lft_0 {x y z : List Int} (h1 : x.length = y.length) (h2 : y.length = z.length) : (lft x y z).map (·.1) = x := by
  unfold lft
  have e : (List.zip y z).length = z.length := zip_len _ _ (by omega)
  rw [zip_fst, e, List.take_of_length_le (by omega)]
theorem lft_12 {x y z : List Int} (h1 : x.length = y.length) (h2 : y.length = z.length) : (lft x y z).map (·.2) = List.zip y z := by
  unfold lft
  have e : (List.zip y z).length = z.length := zip_len _ _ (by omega)
  rw [zip_snd _ _ (by omega)]
theorem lft_1 {x y z : List Int} (h1 : x.length = y.length) (h2 : y.length = z.length) : (lft x y z).map (·.2.1) = y := by
  have e := congrArg (List.map (·.1)) (lft_12 h1 h2)
  rw [List.map_map, zip_fst, List.take_of_length_le (by omega)] at e
  exact e
theorem lft_2 {x y z : List Int} (h1 : x.length = y.length) (h2 : y.length = z.length) : (lft x y z).map (·.2.2) = z := by
  have e := congrArg (List.map (·.2)) (lft_12 h1 h2)
  rw [List.map_map, zip_snd _ _ (by omega)] at e
  exact e

structure Al (K : Nat) (n : Int) (A B C : Nat → Int) : Prop where
  a0 : ∀ v, 0 ≤ A v
  b0 : ∀ v, 0 ≤ B v
  c0 : ∀ v, 0 ≤ C v
  an : S K A = n
  bn : S K B = n
  cn : S K C = n
section
variable {K : Nat} {n : Int} {A B C : Nat → Int}
theorem lo_nonneg (h : Al K n A B C) (v : Nat) : 0 ≤ lo (A v) (B v) (C v) := by
  have h1 := h.a0 v
  have h2 := h.b0 v
  have h3 := h.c0 v
  unfold lo pmin
  split <;> split <;> omega
theorem len_tw (A B C : Nat → Int) : ((twL K A B C).length : Int) = S K (fun v => f2 (A v) (B v) (C v)) := rp_len (fun _ => f2_nonneg _ _ _) K
theorem len_si (A B C : Nat → Int) : ((siL K A B C).length : Int) = S K (fun v => f1 (A v) (B v) (C v)) := rp_len (fun _ => f1_nonneg _ _ _) K
theorem S4 {a b c d e : Nat → Int} (h : ∀ v, v < K → a v = b v + c v + d v + e v) : S K a = S K b + S K c + S K d + S K e := by
  have e1 : S K (fun v => b v + c v) = S K b + S K c := S_add fun _ _ => rfl
  have e2 : S K (fun v => b v + c v + d v) = S K (fun v => b v + c v) + S K d := S_add fun _ _ => rfl
  have e3 : S K a = S K (fun v => b v + c v + d v) + S K e := S_add h
  omega
/-- the lengths: each place has as many single ones more than twice ones, namely the buckets less the medians -/
theorem lens (h : Al K n A B C) :
    S K (fun v => f1 (A v) (B v) (C v)) = S K (fun v => f2 (A v) (B v) (C v)) + (n - S K (fun v => med (A v) (B v) (C v))) ∧
    S K (fun v => f1 (B v) (A v) (C v)) = S K (fun v => f2 (B v) (A v) (C v)) + (n - S K (fun v => med (A v) (B v) (C v))) ∧
    S K (fun v => f1 (C v) (A v) (B v)) = S K (fun v => f2 (C v) (A v) (B v)) + (n - S K (fun v => med (A v) (B v) (C v))) ∧
    n = S K (fun v => lo (A v) (B v) (C v)) + S K (fun v => f2 (A v) (B v) (C v)) + S K (fun v => f2 (B v) (A v) (C v)) + S K (fun v => f2 (C v) (A v) (B v)) + (n - S K (fun v => med (A v) (B v) (C v))) := by
  have e0 : S K A = S K (fun v => lo (A v) (B v) (C v)) + S K (fun v => f2 (B v) (A v) (C v)) + S K (fun v => f2 (C v) (A v) (B v)) + S K (fun v => f1 (A v) (B v) (C v)) := S4 fun v _ => by
    simp only [lo, f1, f2, pos, pmin, pmax]; omega
  have e1 : S K B = S K (fun v => lo (A v) (B v) (C v)) + S K (fun v => f2 (A v) (B v) (C v)) + S K (fun v => f2 (C v) (A v) (B v)) + S K (fun v => f1 (B v) (A v) (C v)) := S4 fun v _ => by
    simp only [lo, f1, f2, pos, pmin, pmax]; omega
  have e2 : S K C = S K (fun v => lo (A v) (B v) (C v)) + S K (fun v => f2 (A v) (B v) (C v)) + S K (fun v => f2 (B v) (A v) (C v)) + S K (fun v => f1 (C v) (A v) (B v)) := S4 fun v _ => by
    simp only [lo, f1, f2, pos, pmin, pmax]; omega
  have em : S K (fun v => med (A v) (B v) (C v)) = S K (fun v => lo (A v) (B v) (C v)) + S K (fun v => f2 (A v) (B v) (C v)) + S K (fun v => f2 (B v) (A v) (C v)) + S K (fun v => f2 (C v) (A v) (B v)) := S4 fun v _ => by
    simp only [lo, f2, pos, pmin, pmax, med]; omega
  have := h.an
  have := h.bn
  have := h.cn
  omega
theorem split2 {α : Type} {f : α → Int} {T U : List α} : L (T ++ U) f = L T f + L U f := L_app T U f
theorem ne2_zero {α : Type} {T : List α} {p q : α → Int} (h : ∀ t ∈ T, p t = q t) : L T (fun t => ne2 (p t) (q t)) = 0 := by
  have e : L T (fun t => ne2 (p t) (q t)) = L T (fun _ => 0) := L_congr fun t ht => by
    unfold ne2
    rw [if_pos (h t ht)]
  rw [e]
  clear h e
  induction T with
  | nil => rfl
  | cons t T ih => rw [L_cons, ih]; rfl
theorem ne2_most {α : Type} (T : List α) (p q : α → Int) : L T (fun t => ne2 (p t) (q t)) ≤ (T.length : Int) := by
  rw [← L_one]
  exact L_le fun t _ => by unfold ne2; split <;> omega
set_option maxHeartbeats 4000000 in
/-- M2: what is dealt is a table of three -/
theorem dealt_ok (h : Al K n A B C) (hm : S K (fun v => med (A v) (B v) (C v)) ≤ n) :
    (twL K A B C).length ≤ (siL K A B C).length ∧ (twL K B A C).length ≤ (siL K B A C).length ∧ (twL K C A B).length ≤ (siL K C A B).length ∧
    ((siL K A B C).drop (twL K A B C).length).length = ((siL K B A C).drop (twL K B A C).length).length ∧ ((siL K B A C).drop (twL K B A C).length).length = ((siL K C A B).drop (twL K C A B).length).length ∧
    ((dl K A B C).length : Int) = n ∧ (∀ t ∈ dl K A B C, InK K t) ∧
    (∀ v, v < K → cnt ((dl K A B C).map (·.1)) (v : Int) = A v) ∧ (∀ v, v < K → cnt ((dl K A B C).map (·.2.1)) (v : Int) = B v) ∧ (∀ v, v < K → cnt ((dl K A B C).map (·.2.2)) (v : Int) = C v) ∧
    L (dl K A B C) (fun t => ne2 t.1 t.2.1) = S K (fun v => pos (A v - B v)) ∧ L (dl K A B C) (fun t => ne2 t.1 t.2.2) = S K (fun v => pos (A v - C v)) ∧ L (dl K A B C) (fun t => ne2 t.2.1 t.2.2) = S K (fun v => pos (B v - C v)) := by
  obtain ⟨l0, l1, l2, l3⟩ := lens h
  have t0 := len_tw (K := K) A B C
  have t1 := len_tw (K := K) B A C
  have t2 := len_tw (K := K) C A B
  have s0 := len_si (K := K) A B C
  have s1 := len_si (K := K) B A C
  have s2 := len_si (K := K) C A B
  have le0 : (twL K A B C).length ≤ (siL K A B C).length := by omega
  have le1 : (twL K B A C).length ≤ (siL K B A C).length := by omega
  have le2 : (twL K C A B).length ≤ (siL K C A B).length := by omega
  have q1 : ((siL K A B C).drop (twL K A B C).length).length = ((siL K B A C).drop (twL K B A C).length).length := by rw [List.length_drop, List.length_drop]; omega
  have q2 : ((siL K B A C).drop (twL K B A C).length).length = ((siL K C A B).drop (twL K C A B).length).length := by rw [List.length_drop, List.length_drop]; omega
  have sl : ((same (loL K A B C)).length : Int) = S K (fun v => lo (A v) (B v) (C v)) := by
    unfold same
    rw [List.length_map]
    exact rp_len (lo_nonneg h) K
  have g0 : (grp0 (siL K A B C) (twL K A B C)).length = (twL K A B C).length := by unfold grp0; rw [List.length_map, zip_len _ _ le0]
  have g1 : (grp1 (siL K B A C) (twL K B A C)).length = (twL K B A C).length := by unfold grp1; rw [List.length_map, zip_len _ _ le1]
  have g2 : (grp2 (siL K C A B) (twL K C A B)).length = (twL K C A B).length := by unfold grp2; rw [List.length_map, zip_len _ _ le2]
  have gl := lft_len q1 q2
  have gd : ((siL K A B C).drop (twL K A B C).length).length = (siL K A B C).length - (twL K A B C).length := List.length_drop
  have len : ((dl K A B C).length : Int) = n := by
    unfold dl
    simp only [List.length_append]
    omega
  -- every coordinate
  have mz : ∀ {s t : List Int} {p : Int × Int}, (∀ x ∈ s, Rng K x) → (∀ x ∈ t, Rng K x) → p ∈ List.zip s t → Rng K p.1 ∧ Rng K p.2 := fun {s t p} hs ht hp => by
    obtain ⟨x, y⟩ := p
    exact ⟨hs _ (List.of_mem_zip hp).1, ht _ (List.of_mem_zip hp).2⟩
  have rs : ∀ (A B C : Nat → Int), ∀ x ∈ siL K A B C, Rng K x := fun _ _ _ x hx => rp_mem hx
  have rt : ∀ (A B C : Nat → Int), ∀ x ∈ twL K A B C, Rng K x := fun _ _ _ x hx => rp_mem hx
  have rd : ∀ (A B C : Nat → Int), ∀ x ∈ (siL K A B C).drop (twL K A B C).length, Rng K x := fun _ _ _ x hx => rp_mem (List.mem_of_mem_drop hx)
  have inK : ∀ t ∈ dl K A B C, InK K t := fun t ht => by
    unfold dl at ht
    simp only [List.mem_append] at ht
    rcases ht with ht | ht | ht | ht | ht
    · obtain ⟨x, hx, rfl⟩ := List.mem_map.mp ht
      have := rp_mem hx
      exact ⟨this, this, this⟩
    · obtain ⟨p, hp, rfl⟩ := List.mem_map.mp ht
      have := mz (rs _ _ _) (rt _ _ _) hp
      exact ⟨this.1, this.2, this.2⟩
    · obtain ⟨p, hp, rfl⟩ := List.mem_map.mp ht
      have := mz (rs _ _ _) (rt _ _ _) hp
      exact ⟨this.2, this.1, this.2⟩
    · obtain ⟨p, hp, rfl⟩ := List.mem_map.mp ht
      have := mz (rs _ _ _) (rt _ _ _) hp
      exact ⟨this.2, this.2, this.1⟩
    · obtain ⟨x, y, z⟩ := t
      have m1 := List.of_mem_zip ht
      have m2 := List.of_mem_zip m1.2
      exact ⟨rd _ _ _ _ m1.1, rd _ _ _ _ m2.1, rd _ _ _ _ m2.2⟩
  have cs : ∀ (A B C : Nat → Int) (v : Nat), v < K → cnt ((siL K A B C).take (twL K A B C).length) (v : Int) + cnt ((siL K A B C).drop (twL K A B C).length) (v : Int) = f1 (A v) (B v) (C v) := fun A B C v hv => by
    rw [cnt_cut]
    exact rp_cnt (f := fun v => f1 (A v) (B v) (C v)) (fun _ => f1_nonneg _ _ _) hv
  have ct : ∀ (A B C : Nat → Int) (v : Nat), v < K → cnt (twL K A B C) (v : Int) = f2 (A v) (B v) (C v) := fun A B C v hv => rp_cnt (f := fun v => f2 (A v) (B v) (C v)) (fun _ => f2_nonneg _ _ _) hv
  have cl : ∀ v, v < K → cnt (loL K A B C) (v : Int) = lo (A v) (B v) (C v) := fun v hv => rp_cnt (f := fun v => lo (A v) (B v) (C v)) (lo_nonneg h) hv
  have ms : ∀ (l : List Int), (same l).map (·.1) = l ∧ (same l).map (·.2.1) = l ∧ (same l).map (·.2.2) = l := fun l => by
    unfold same
    simp [List.map_map, Function.comp_def]
  have m0 : ∀ s t : List Int, t.length ≤ s.length → (grp0 s t).map (·.1) = s.take t.length ∧ (grp0 s t).map (·.2.1) = t ∧ (grp0 s t).map (·.2.2) = t := fun s t hst => by
    unfold grp0
    rw [List.map_map, List.map_map, List.map_map]
    exact ⟨zip_fst s t, zip_snd s t hst, zip_snd s t hst⟩
  have m1 : ∀ s t : List Int, t.length ≤ s.length → (grp1 s t).map (·.1) = t ∧ (grp1 s t).map (·.2.1) = s.take t.length ∧ (grp1 s t).map (·.2.2) = t := fun s t hst => by
    unfold grp1
    rw [List.map_map, List.map_map, List.map_map]
    exact ⟨zip_snd s t hst, zip_fst s t, zip_snd s t hst⟩
  have m2 : ∀ s t : List Int, t.length ≤ s.length → (grp2 s t).map (·.1) = t ∧ (grp2 s t).map (·.2.1) = t ∧ (grp2 s t).map (·.2.2) = s.take t.length := fun s t hst => by
    unfold grp2
    rw [List.map_map, List.map_map, List.map_map]
    exact ⟨zip_snd s t hst, zip_snd s t hst, zip_fst s t⟩
  have cA : ∀ v, v < K → cnt ((dl K A B C).map (·.1)) (v : Int) = A v := fun v hv => by
    unfold dl
    simp only [List.map_append, cnt_app]
    rw [(ms _).1, (m0 _ _ le0).1, (m1 _ _ le1).1, (m2 _ _ le2).1, lft_0 q1 q2]
    have e1 := cs A B C v hv
    rw [cl v hv, ct B A C v hv, ct C A B v hv]
    have e2 : A v = lo (A v) (B v) (C v) + f1 (A v) (B v) (C v) + f2 (B v) (A v) (C v) + f2 (C v) (A v) (B v) := by simp only [lo, f1, f2, pos, pmin, pmax]; omega
    omega
  have cB : ∀ v, v < K → cnt ((dl K A B C).map (·.2.1)) (v : Int) = B v := fun v hv => by
    unfold dl
    simp only [List.map_append, cnt_app]
    rw [(ms _).2.1, (m0 _ _ le0).2.1, (m1 _ _ le1).2.1, (m2 _ _ le2).2.1, lft_1 q1 q2]
    have e1 := cs B A C v hv
    rw [cl v hv, ct A B C v hv, ct C A B v hv]
    have e2 : B v = lo (A v) (B v) (C v) + f1 (B v) (A v) (C v) + f2 (A v) (B v) (C v) + f2 (C v) (A v) (B v) := by simp only [lo, f1, f2, pos, pmin, pmax]; omega
    omega
  have cC : ∀ v, v < K → cnt ((dl K A B C).map (·.2.2)) (v : Int) = C v := fun v hv => by
    unfold dl
    simp only [List.map_append, cnt_app]
    rw [(ms _).2.2, (m0 _ _ le0).2.2, (m1 _ _ le1).2.2, (m2 _ _ le2).2.2, lft_2 q1 q2]
    have e1 := cs C A B v hv
    rw [cl v hv, ct A B C v hv, ct B A C v hv]
    have e2 : C v = lo (A v) (B v) (C v) + f1 (C v) (A v) (B v) + f2 (A v) (B v) (C v) + f2 (B v) (A v) (C v) := by simp only [lo, f1, f2, pos, pmin, pmax]; omega
    omega
  -- pairs
  have z0 : ∀ (p q : Tr → Int), (∀ v : Int, p (v, v, v) = q (v, v, v)) → L (same (loL K A B C)) (fun t => ne2 (p t) (q t)) = 0 := fun p q e => ne2_zero fun t ht => by
    obtain ⟨x, _, rfl⟩ := List.mem_map.mp ht
    exact e x
  have P01 : S K (fun v => pmin (A v) (B v)) = S K (fun v => lo (A v) (B v) (C v)) + S K (fun v => f2 (C v) (A v) (B v)) := S_add fun v _ => by simp only [lo, f2, pos, pmin]; omega
  have P02 : S K (fun v => pmin (A v) (C v)) = S K (fun v => lo (A v) (B v) (C v)) + S K (fun v => f2 (B v) (A v) (C v)) := S_add fun v _ => by simp only [lo, f2, pos, pmin]; omega
  have P12 : S K (fun v => pmin (B v) (C v)) = S K (fun v => lo (A v) (B v) (C v)) + S K (fun v => f2 (A v) (B v) (C v)) := S_add fun v _ => by simp only [lo, f2, pos, pmin]; omega
  have ex : ∀ (p q : Tr → Int), L (dl K A B C) (fun t => ne2 (p t) (q t)) = L (same (loL K A B C)) (fun t => ne2 (p t) (q t)) + (L (grp0 (siL K A B C) (twL K A B C)) (fun t => ne2 (p t) (q t)) + (L (grp1 (siL K B A C) (twL K B A C)) (fun t => ne2 (p t) (q t)) +
      (L (grp2 (siL K C A B) (twL K C A B)) (fun t => ne2 (p t) (q t)) + L (lft ((siL K A B C).drop (twL K A B C).length) ((siL K B A C).drop (twL K B A C).length) ((siL K C A B).drop (twL K C A B).length)) (fun t => ne2 (p t) (q t))))) := fun p q => by
    unfold dl
    rw [L_app, L_app, L_app, L_app]
  have b0 := fun p q => ne2_most (grp0 (siL K A B C) (twL K A B C)) p q
  have b1 := fun p q => ne2_most (grp1 (siL K B A C) (twL K B A C)) p q
  have b2 := fun p q => ne2_most (grp2 (siL K C A B) (twL K C A B)) p q
  have b3 := fun p q => ne2_most (lft ((siL K A B C).drop (twL K A B C).length) ((siL K B A C).drop (twL K B A C).length) ((siL K C A B).drop (twL K C A B).length)) p q
  have n01 : L (dl K A B C) (fun t => ne2 t.1 t.2.1) = S K (fun v => pos (A v - B v)) := by
    refine loose (fun t ht => (inK t ht).1) (fun t ht => (inK t ht).2.1) cA cB ?_
    have x1 := ex (·.1) (·.2.1)
    have x2 := z0 (·.1) (·.2.1) fun _ => rfl
    have x3 : L (grp2 (siL K C A B) (twL K C A B)) (fun t => ne2 t.1 t.2.1) = 0 := ne2_zero fun t ht => by
      obtain ⟨p, _, rfl⟩ := List.mem_map.mp ht
      rfl
    have y0 := b0 (·.1) (·.2.1)
    have y1 := b1 (·.1) (·.2.1)
    have y3 := b3 (·.1) (·.2.1)
    omega
  have n02 : L (dl K A B C) (fun t => ne2 t.1 t.2.2) = S K (fun v => pos (A v - C v)) := by
    refine loose (fun t ht => (inK t ht).1) (fun t ht => (inK t ht).2.2) cA cC ?_
    have x1 := ex (·.1) (·.2.2)
    have x2 := z0 (·.1) (·.2.2) fun _ => rfl
    have x3 : L (grp1 (siL K B A C) (twL K B A C)) (fun t => ne2 t.1 t.2.2) = 0 := ne2_zero fun t ht => by
      obtain ⟨p, _, rfl⟩ := List.mem_map.mp ht
      rfl
    have y0 := b0 (·.1) (·.2.2)
    have y1 := b2 (·.1) (·.2.2)
    have y3 := b3 (·.1) (·.2.2)
    omega
  have n12 : L (dl K A B C) (fun t => ne2 t.2.1 t.2.2) = S K (fun v => pos (B v - C v)) := by
    refine loose (fun t ht => (inK t ht).2.1) (fun t ht => (inK t ht).2.2) cB cC ?_
    have x1 := ex (·.2.1) (·.2.2)
    have x2 := z0 (·.2.1) (·.2.2) fun _ => rfl
    have x3 : L (grp0 (siL K A B C) (twL K A B C)) (fun t => ne2 t.2.1 t.2.2) = 0 := ne2_zero fun t ht => by
      obtain ⟨p, _, rfl⟩ := List.mem_map.mp ht
      rfl
    have y0 := b1 (·.2.1) (·.2.2)
    have y1 := b2 (·.2.1) (·.2.2)
    have y3 := b3 (·.2.1) (·.2.2)
    omega
  exact ⟨le0, le1, le2, q1, q2, len, inK, cA, cB, cC, n01, n02, n12⟩
end

/-! ### the first column laid as one likes -/
theorem cnt_cons (x : Int) (r : List Int) (v : Int) : cnt (x :: r) v = (if x = v then 1 else 0) + cnt r v := L_cons _ _ _
theorem cnt_mem {r : List Int} {v : Int} (h : 0 < cnt r v) : v ∈ r := by
  induction r with
  | nil => exact absurd (show (0 : Int) < 0 from h) (by decide)
  | cons x r ih =>
    rw [cnt_cons] at h
    by_cases e : x = v
    · subst e; exact List.mem_cons_self
    · rw [if_neg e] at h
      exact List.mem_cons_of_mem _ (ih (by omega))
theorem cnt_perm {r s : List Int} (p : r.Perm s) (v : Int) : cnt r v = cnt s v := L_perm p _
theorem laid {K : Nat} : ∀ (one : List Int) (T : List Tr), (∀ x ∈ one, Rng K x) → T.length = one.length → (∀ v, v < K → cnt (T.map (·.1)) (v : Int) = cnt one (v : Int)) → ∃ T' : List Tr, T'.Perm T ∧ T'.map (·.1) = one
  | [], T, _, hl, _ => ⟨T, List.Perm.refl _, by
      have : T = [] := List.length_eq_zero_iff.mp hl
      subst this; rfl⟩
  | x :: one, T, hr, hl, hc => by
    obtain ⟨x0, x1⟩ := hr x List.mem_cons_self
    have ex : ((x.toNat : Nat) : Int) = x := by omega
    have c1 := hc x.toNat (by omega)
    rw [ex, cnt_cons, if_pos rfl] at c1
    have nn := cnt_nonneg one x
    obtain ⟨t, ht, rfl⟩ := List.mem_map.mp (cnt_mem (show 0 < cnt (T.map (·.1)) x by omega))
    obtain ⟨T1, T2, rfl⟩ := List.append_of_mem ht
    have pm : (T1 ++ t :: T2).Perm (t :: (T1 ++ T2)) := List.perm_middle
    obtain ⟨T', p', e'⟩ := laid one (T1 ++ T2) (fun y hy => hr y (List.mem_cons_of_mem _ hy)) (by
      have := pm.length_eq
      rw [List.length_cons] at this hl
      omega) fun v hv => by
        have := hc v hv
        rw [cnt_perm (pm.map _) (v : Int), List.map_cons, cnt_cons, cnt_cons] at this
        omega
    exact ⟨t :: T', (p'.cons t).trans pm.symm, by rw [List.map_cons, e']⟩
end Lm
namespace LmW
open PySem PySem.Spec PyProof.Rows L2
section
variable {P : Program} {w : World} {K : PySem.W.Frag} {mg : Str → Option Value} {base : Heap}
theorem mem_le_sum : ∀ {ns : List Int} {x : Int}, (∀ y ∈ ns, 0 ≤ y) → x ∈ ns → x ≤ ns.sum
  | [], _, _, h => absurd h List.not_mem_nil
  | y :: ns, x, h0, h => by
    have hs : 0 ≤ ns.sum := by
      clear h
      induction ns with
      | nil => exact Int.le_refl _
      | cons z ns ih =>
        have a := h0 z (by simp)
        have b := ih fun u hu => h0 u (by
          rcases List.mem_cons.mp hu with r | r
          · simp [r]
          · simp [r])
        rw [List.sum_cons]
        omega
    rw [List.sum_cons]
    rcases List.mem_cons.mp h with rfl | h
    · omega
    · have := mem_le_sum (fun u hu => h0 u (List.mem_cons_of_mem _ hu)) h
      have := h0 y List.mem_cons_self
      omega
def sp_check_allocation : Sp := fun vs H Q _ => ∃ (v : V) (u : Str) (ns : List Int) (k : Nat) (n : Int), vs = [v, .str u] ∧ TI ns v H ∧ Alloc ns k n ∧ 1 ≤ k ∧ k ≤ 5 ∧ n ≤ 20 ∧ ∀ H', Same H H' → Q .non H'
theorem ok_check_allocation (T : Txt K mg) : Ok P w base 3 T.check_allocation sp_check_allocation := by
  have nd := sc_check_allocation.nd
  refine T.check_allocation.F.ok sc_check_allocation (fun vs H Q E h => ?_) (fun cdv A outer s H vs Q E hr h => ?_)
  · obtain ⟨v, u, ns, k, n, rfl, _⟩ := h
    rfl
  · obtain ⟨v, u, ns, k, n, rfl, ⟨a, rfl, hv⟩, ⟨hl, h0, hs⟩, hk, hk5, hn, q⟩ := h
    refine ⟨_, (pss_cons (ps_if (PW.pt (pw_or (pt_not (pt_val (pe_callB (r := rIsi K) call_isi (by rfl) T.n_isinstance (by decide +kernel) (pa_cons (pv 0) (pa_cons (pe_bltn (v := .ty "tuple") (by rfl) T.n_tuple (by decide +kernel) rfl) pa_nil))))) (pw_or1 (pt_not (pt_chain op_le op_le pe_int (pe_callB (r := rLen K) call_len_seq (by rfl) T.n_len (by decide +kernel) (pa_cons (pv 0) pa_nil)) (pe_glob (v := .int 5) rfl T.MOST_VARIANTS_allocations ⟨_, rfl⟩)))))) pss_never pss_nil)
      (pss_one (ps_if (PW.pt (pw_or (pt_not (pt_val (pe_callB (r := rAll K) (cr_all rfl) (by rfl) T.n_all (by decide +kernel) (pa_cons (pe_lc (own := [("share", 2)]) (g := gName 2) (tt := tYes) rfl nd (pi_tup (pv 0)) (blkOk_by (by kernel_rfl)) (fun _ _ _ _ _ => (pg_name (i := 2) nd rfl (by first | exact .inl rfl | exact .inr rfl))) (fun _ _ _ _ _ => pts_nil) (fun _ _ _ _ _ => (pe_call (ok_is_between T) (hr.mono (by decide)) rfl T.is_between.g T.is_between.F.kp T.is_between.B .nil pass0 (pa_cons (pv 2) (pa_cons pe_int (pa_cons (pe_glob (v := .int 20) rfl T.MOST_BUCKETS_allocations ⟨_, rfl⟩) pa_nil)))))) pa_nil)))) (pw_or1 (pt_cmpR op_gt (pe_callB (r := rSumT K) (LmR.cr_sumT rfl) (by rfl) T.n_sum (by decide +kernel) (pa_cons (pv 0) pa_nil)) (pe_glob (v := .int 20) rfl T.MOST_BUCKETS_allocations ⟨_, rfl⟩) (nomark _))))) pss_never pss_nil))), ?_⟩
    have hT : SqT K H a (ns.map V.int) := SqT.of hv
    -- if not isinstance(value, tuple) or not 1 <= len(value) <= 5
    refine ⟨.ref a, rfl, .ref a, .ty "tuple", _, _, true, rfl, .ty "tuple", .base (.tup hv), kit_ty (by decide +kernel), true, rfl, iteF ?_⟩
    have e1 : (1 : Int) ≤ (((ns.map V.int).length : Nat) : Int) := by rw [List.length_map]; omega
    have e2 : (((ns.map V.int).length : Nat) : Int) ≤ 5 := by rw [List.length_map]; omega
    refine ⟨.ref a, rfl, a, _, rfl, .inr hT, 1, _, rfl, rfl, true, congrArg V.bl (decide_eq_true e1), iteT ⟨_, 5, rfl, rfl, true, congrArg V.bl (decide_eq_true e2), iteF ?_⟩⟩
    -- if not all([..])
    refine ⟨.ref a, rfl, a, rfl, ⟨_, hT⟩, fun D hD => ?_⟩
    refine lc_vals walk_tup hD (fun H' e => SqT.of (e a _ hv)) yat_same (fun _ => .bl true) (by rw [List.length_map]; omega) (fun _ => rfl) (fun i x H1 H2 hi e y K1 k1 => ?_) fun H' e hq => ?_
    · obtain ⟨rfl, hx⟩ := y
      rw [List.getElem?_map] at hx
      obtain ⟨z, hz, rfl⟩ := Option.map_eq_some_iff.mp hx
      have z0 : 0 ≤ z := h0 z (List.mem_of_getElem? hz)
      have z1 : z ≤ 20 := by
        have := mem_le_sum h0 (List.mem_of_getElem? hz)
        omega
      exact ⟨.int z, rfl, z, 0, 20, rfl, z0, z1, k1 H2 (Same.refl _)⟩
    · refine ⟨D, (List.range (ns.map V.int).length).map (fun _ => true), rfl, SqL.of ?_, ?_⟩
      · rw [List.map_map]
        exact hq
      · have ea : ((List.range (ns.map V.int).length).map (fun _ => true)).all id = true := by simp
        rw [ea]
        refine ⟨true, rfl, iteF ?_⟩
        have ns20 : ¬ (20 : Int) < ns.sum := by omega
        refine ⟨.ref a, rfl, a, ns, rfl, SqT.of (e a _ hv), _, _, rfl, rfl, false, congrArg V.bl (decide_eq_false ns20), iteF ?_⟩
        exact q H' e
def sp_check_alike : Sp := fun vs H Q _ => ∃ (v f : V) (u : Str) (ns ms : List Int) (k : Nat) (n : Int), vs = [v, f, .str u] ∧ TI ns v H ∧ TI ms f H ∧ Alloc ns k n ∧ Alloc ms k n ∧ k ≤ 100 ∧ ∀ H', Same H H' → Q .non H'
theorem ok_check_alike (T : Txt K mg) : Ok P w base 3 T.check_alike sp_check_alike := by
  have nd := sc_check_alike.nd
  refine T.check_alike.F.ok sc_check_alike (fun vs H Q E h => ?_) (fun cdv A outer s H vs Q E hr h => ?_)
  · obtain ⟨v, f, u, ns, ms, k, n, rfl, _⟩ := h
    rfl
  · obtain ⟨v, f, u, ns, ms, k, n, rfl, hv, ⟨a, rfl, hf⟩, an, am, hk, q⟩ := h
    refine ⟨_, (pss_one (ps_if (pt_not (pt_val (pe_call (ok_is_allocation T) (hr.mono (by decide)) rfl T.is_allocation.g T.is_allocation.F.kp T.is_allocation.B .nil pass0 (pa_cons (pv 0) (pa_cons (pe_callB (r := rLen K) call_len_seq (by rfl) T.n_len (by decide +kernel) (pa_cons (pv 1) pa_nil)) (pa_cons (pe_callB (r := rSumT K) (LmR.cr_sumT rfl) (by rfl) T.n_sum (by decide +kernel) (pa_cons (pv 1) pa_nil)) pa_nil)))))) pss_never pss_nil)), ?_⟩
    refine ⟨_, rfl, .ref a, rfl, a, _, rfl, .inr (SqT.of hf), .ref a, rfl, a, ms, rfl, SqT.of hf, v, ns, k, n, ?_, hv, an, hk, fun H' e => ?_⟩
    · rw [List.length_map, am.1, am.2.2]
      rfl
    · exact ⟨true, rfl, iteF (q H' e)⟩
theorem sorted3 {x y z : Int} {l : List Int} (p : l.Perm [x, y, z]) (s : l.Pairwise (· ≤ ·)) : ∃ a c, l = [a, Lm.med x y z, c] := by
  have hl := p.length_eq
  obtain ⟨a, b, c, rfl⟩ : ∃ a b c, l = [a, b, c] := by
    match l, hl with
    | [a, b, c], _ => exact ⟨a, b, c, rfl⟩
  have ab : a ≤ b := (List.pairwise_cons.mp s).1 b (by simp)
  have bc : b ≤ c := (List.pairwise_cons.mp (List.pairwise_cons.mp s).2).1 c (by simp)
  have sm : a + b + c = x + y + z := by
    have e := Lm.L_perm p (fun t => t)
    have e1 : Lm.L [a, b, c] (fun t => t) = a + (b + (c + 0)) := rfl
    have e2 : Lm.L [x, y, z] (fun t => t) = x + (y + (z + 0)) := rfl
    omega
  have ma : a = x ∨ a = y ∨ a = z := by simpa using p.mem_iff.mp (show a ∈ [a, b, c] by simp)
  have mc : c = x ∨ c = y ∨ c = z := by simpa using p.mem_iff.mp (show c ∈ [a, b, c] by simp)
  have mx : x = a ∨ x = b ∨ x = c := by simpa using p.mem_iff.mpr (show x ∈ [x, y, z] by simp)
  have my : y = a ∨ y = b ∨ y = c := by simpa using p.mem_iff.mpr (show y ∈ [x, y, z] by simp)
  have mz : z = a ∨ z = b ∨ z = c := by simpa using p.mem_iff.mpr (show z ∈ [x, y, z] by simp)
  have eb : b = Lm.med x y z := by
    simp only [Lm.med, Lm.pmin, Lm.pmax]
    omega
  exact ⟨a, c, by rw [eb]⟩
theorem at_int {ns : List Int} {i : Nat} {v : V} (h : (ns.map V.int)[i]? = some v) : v = .int (ns.getD i 0) := by
  rw [List.getElem?_map] at h
  obtain ⟨z, hz, rfl⟩ := Option.map_eq_some_iff.mp h
  rw [List.getD_eq_getElem?_getD, hz]
  rfl
theorem zip_same {xs ys us : List V} : ∀ (i : Nat) (H : Hp) (v : V) (H' : Hp), (∃ (T : Addr) (x y u : V), v = V.ref T ∧ H T = none ∧ H' = upd H T (.tup [x, y, u]) ∧ xs[i]? = some x ∧ ys[i]? = some y ∧ us[i]? = some u) → Same H H' := fun i H v H' h => by
  obtain ⟨T, x, y, u, _, n, e, _⟩ := h
  rw [e]
  exact same_new n
def g3 (f : Int → Int → Int → Int) (a b c : List Int) (i : Nat) : Int := f (a.getD i 0) (b.getD i 0) (c.getD i 0)
def medL (k : Nat) (a b c : List Int) : List Int := (List.range k).map (g3 Lm.med a b c)
def sp_medians : Sp := fun vs H Q _ => ∃ (x y z : V) (a b c : List Int) (k : Nat) (n : Int), vs = [x, y, z] ∧ TI a x H ∧ TI b y H ∧ TI c z H ∧ Alloc a k n ∧ Alloc b k n ∧ Alloc c k n ∧ 1 ≤ k ∧ k ≤ 5 ∧ n ≤ 20 ∧
  ∀ v H', Same H H' → TI (medL k a b c) v H' → Q v H'
theorem ok_medians (T : Txt K mg) : Ok P w base 4 T.medians sp_medians := by
  have nd := sc_medians.nd
  refine T.medians.F.ok sc_medians (fun vs H Q E h => ?_) (fun cdv A outer s H vs Q E hr h => ?_)
  · obtain ⟨x, y, z, a, b, c, k, n, rfl, _⟩ := h
    rfl
  · obtain ⟨x, y, z, a, b, c, k, n, rfl, ha, hb, hc, na, nb, nc, hk, hk5, hn, q⟩ := h
    refine ⟨_, (pss_cons (ps_expr (pe_call (ok_check_allocation T) (hr.mono (by decide)) rfl T.check_allocation.g T.check_allocation.F.kp T.check_allocation.B .nil pass0 (pa_cons (pv 0) (pa_cons pe_str pa_nil))))
      (pss_cons (ps_expr (pe_call (ok_check_alike T) (hr.mono (by decide)) rfl T.check_alike.g T.check_alike.F.kp T.check_alike.B .nil pass0 (pa_cons (pv 1) (pa_cons (pv 0) (pa_cons pe_str pa_nil)))))
      (pss_cons (ps_expr (pe_call (ok_check_alike T) (hr.mono (by decide)) rfl T.check_alike.g T.check_alike.F.kp T.check_alike.B .nil pass0 (pa_cons (pv 2) (pa_cons (pv 0) (pa_cons pe_str pa_nil)))))
      (pss_one (ps_ret (pe_callTy (r := rTup K) call_tuple_of (by rfl) T.n_tuple (by decide +kernel) (pa_cons (pe_lc (own := [("shares", 3)]) (g := gName 3) (tt := tYes) rfl nd (LmR.pi_zip3 (by rfl) T.n_zip (pa_cons (pv 0) (pa_cons (pv 1) (pa_cons (pv 2) pa_nil)))) (blkOk_by (by kernel_rfl)) (fun _ _ _ _ _ => (pg_name (i := 3) nd rfl (by first | exact .inl rfl | exact .inr rfl))) (fun _ _ _ _ _ => pts_nil) (fun _ _ _ _ _ => (pe_ix (r := rIxL K) ix_list (pe_callB (r := LmR.rSortedTup K) LmR.cr_sortedTup (by rfl) T.n_sorted (by decide +kernel) (pa_cons (pv 3) pa_nil)) pe_int (fun _ _ => rfl)))) pa_nil))))))), ?_⟩
    refine ⟨x, rfl, x, _, a, k, n, rfl, ha, na, hk, hk5, hn, fun H1 e1 => ?_⟩
    refine ⟨y, rfl, x, rfl, y, x, _, b, a, k, n, rfl, hb.mono e1, ha.mono e1, nb, na, by omega, fun H2 e2 => ?_⟩
    refine ⟨z, rfl, x, rfl, z, x, _, c, a, k, n, rfl, (hc.mono e1).mono e2, (ha.mono e1).mono e2, nc, na, by omega, fun H3 e3 => ?_⟩
    have e4 : Same H H3 := (e1.trans e2).trans e3
    obtain ⟨pa, rfl, qa⟩ := ha.mono e4
    obtain ⟨pb, rfl, qb⟩ := hb.mono e4
    obtain ⟨pc, rfl, qc⟩ := hc.mono e4
    refine ⟨_, rfl, _, rfl, _, rfl, pa, pb, pc, _, _, _, rfl, SqT.of qa, SqT.of qb, SqT.of qc, fun D hD => ?_⟩
    refine lc_vals (LmR.walk_zip3 (by simp [na.1, nb.1]) (by simp [na.1, nc.1])) hD (fun H' e => ⟨SqT.of (e _ _ qa), SqT.of (e _ _ qb), SqT.of (e _ _ qc)⟩) zip_same (fun i => .int (g3 Lm.med a b c i)) (by rw [List.length_map]; have := na.1; omega) (fun _ => rfl)
      (fun i v H1' H2' hi e y K1 k1 => ?_) fun H' e hq => ?_
    · obtain ⟨t, x1, x2, x3, rfl, nt, rfl, h1, h2, h3⟩ := y
      rw [at_int h1, at_int h2, at_int h3]
      refine ⟨.ref t, rfl, t, [a.getD i 0, b.getD i 0, c.getD i 0], rfl, SqT.of upd_same, by show 3 < 64; decide, fun ns' p pm pw np => ?_⟩
      obtain ⟨u1, u3, rfl⟩ := sorted3 pm pw
      refine ⟨p, _, 0 + 1, _, rfl, rfl, SqL.of upd_same, atI_nat (j := 1) rfl, k1 _ ?_⟩
      exact (same_new nt).trans (same_new np)
    · refine ⟨D, (List.range (a.map V.int).length).map (fun i => V.int (g3 Lm.med a b c i)), rfl, .inl ⟨SqL.of hq, fun l hl => ?_⟩⟩
      refine q _ _ ((e4.trans e).trans (same_new hl)) ⟨l, rfl, ?_⟩
      rw [upd_same]
      unfold medL
      rw [List.map_map, List.length_map, na.1]
      rfl
end
end LmW
/-! triples.py: the checks, the excess, repeated. -/
namespace LmW
open PySem PySem.Spec PyProof.Rows L2
section
variable {P : Program} {w : World} {K : PySem.W.Frag} {mg : Str → Option Value} {base : Heap}
theorem nd_name {T : Prop} (h : T) : T := h
def sp_is_some_allocation : Sp := fun vs H Q _ => ∃ (v : V) (ns : List Int) (k : Nat) (n : Int), vs = [v] ∧ TI ns v H ∧ Alloc ns k n ∧ 1 ≤ k ∧ k ≤ 5 ∧ n ≤ 20 ∧ ∀ H', Same H H' → Q (.bl true) H'
theorem ok_is_some_allocation (T : Txt K mg) : Ok P w base 1 T.is_some_allocation sp_is_some_allocation := by
  have nd := sc_is_some_allocation.nd
  refine T.is_some_allocation.F.ok sc_is_some_allocation (fun vs H Q E h => ?_) (fun cdv A outer s H vs Q E hr h => ?_)
  · obtain ⟨v, ns, k, n, rfl, _⟩ := h
    rfl
  · obtain ⟨v, ns, k, n, rfl, ⟨a, rfl, hv⟩, ⟨hl, h0, hs⟩, hk, hk5, hn, q⟩ := h
    refine ⟨_, (pss_cons (ps_if (PW.pt (pw_or (pt_not (pt_val (pe_callB (r := rIsi K) call_isi (by rfl) T.n_isinstance (by decide +kernel) (pa_cons (pv 0) (pa_cons (pe_bltn (v := .ty "tuple") (by rfl) T.n_tuple (by decide +kernel) rfl) pa_nil))))) (pw_or1 (pt_not (pt_chain op_le op_le pe_int (pe_callB (r := rLen K) call_len_seq (by rfl) T.n_len (by decide +kernel) (pa_cons (pv 0) pa_nil)) (pe_glob (v := .int 5) rfl T.MOST_VARIANTS_triples ⟨_, rfl⟩)))))) (pss_one (ps_ret pe_bl)) pss_nil)
      (pss_cons (ps_if (pt_not (pt_val (pe_callB (r := rAll K) (cr_all rfl) (by rfl) T.n_all (by decide +kernel) (pa_cons (pe_lc (own := [("share", 1)]) (g := gName 1) (tt := tYes) rfl nd (pi_tup (pv 0)) (blkOk_by (by kernel_rfl)) (fun _ _ _ _ _ => (pg_name (i := 1) nd rfl (by first | exact .inl rfl | exact .inr rfl))) (fun _ _ _ _ _ => pts_nil) (fun _ _ _ _ _ => (pe_and (pe_callB (r := rIsi K) call_isi (by rfl) T.n_isinstance (by decide +kernel) (pa_cons (pv 1) (pa_cons (pe_bltn (v := .ty "int") (by rfl) T.n_int (by decide +kernel) rfl) pa_nil))) (pe_and (pe_not (pe_callB (r := rIsi K) call_isi (by rfl) T.n_isinstance (by decide +kernel) (pa_cons (pv 1) (pa_cons (pe_bltn (v := .ty "bool") (by rfl) T.n_bool (by decide +kernel) rfl) pa_nil)))) (pe_one (pe_cmpR op_ge (pv 1) pe_int (nomark _))))))) pa_nil)))) (pss_one (ps_ret pe_bl)) pss_nil)
      (pss_one (ps_ret (pe_cmpR op_le (pe_callB (r := rSumT K) (LmR.cr_sumT rfl) (by rfl) T.n_sum (by decide +kernel) (pa_cons (pv 0) pa_nil)) (pe_glob (v := .int 20) rfl T.MOST_BUCKETS_triples ⟨_, rfl⟩) (nomark _)))))), ?_⟩
    have hT : SqT K H a (ns.map V.int) := SqT.of hv
    refine ⟨.ref a, rfl, .ref a, .ty "tuple", _, _, true, rfl, .ty "tuple", .base (.tup hv), kit_ty (by decide +kernel), true, rfl, iteF ?_⟩
    have e1 : (1 : Int) ≤ (((ns.map V.int).length : Nat) : Int) := by rw [List.length_map]; omega
    have e2 : (((ns.map V.int).length : Nat) : Int) ≤ 5 := by rw [List.length_map]; omega
    refine ⟨.ref a, rfl, a, _, rfl, .inr hT, 1, _, rfl, rfl, true, congrArg V.bl (decide_eq_true e1), iteT ⟨_, 5, rfl, rfl, true, congrArg V.bl (decide_eq_true e2), iteF ?_⟩⟩
    refine ⟨.ref a, rfl, a, rfl, ⟨_, hT⟩, fun D hD => ?_⟩
    refine lc_vals walk_tup hD (fun H' e => SqT.of (e a _ hv)) yat_same (fun _ => .bl true) (by rw [List.length_map]; omega) (fun _ => rfl) (fun i x H1 H2 hi e y K1 k1 => ?_) fun H' e hq => ?_
    · obtain ⟨rfl, hx⟩ := y
      rw [List.getElem?_map] at hx
      obtain ⟨z, hz, rfl⟩ := Option.map_eq_some_iff.mp hx
      have z0 : 0 ≤ z := h0 z (List.mem_of_getElem? hz)
      refine ⟨.int z, rfl, .int z, .ty "int", _, _, true, rfl, .ty "int", .base (.int z), kit_ty (by decide +kernel), true, rfl, iteT ?_⟩
      refine ⟨.int z, rfl, .int z, .ty "bool", _, _, false, rfl, .ty "bool", .base (.int z), kit_ty (by decide +kernel), false, rfl, true, rfl, iteT ?_⟩
      refine ⟨.int z, rfl, z, 0, rfl, rfl, ?_⟩
      show K1 (.bl (decide (0 ≤ z))) H2
      rw [decide_eq_true z0]
      exact k1 H2 (Same.refl _)
    · refine ⟨D, (List.range (ns.map V.int).length).map (fun _ => true), rfl, SqL.of ?_, ?_⟩
      · rw [List.map_map]
        exact hq
      · have ea : ((List.range (ns.map V.int).length).map (fun _ => true)).all id = true := by simp
        rw [ea]
        refine ⟨true, rfl, iteF ?_⟩
        have ns20 : ns.sum ≤ 20 := by omega
        refine ⟨.ref a, rfl, a, ns, rfl, SqT.of (e a _ hv), _, _, rfl, rfl, ?_⟩
        show Q (.bl (decide (ns.sum ≤ 20))) H'
        rw [decide_eq_true ns20]
        exact q H' e
def sp_check_like : Sp := fun vs H Q _ => ∃ (m l t1 t2 : Addr) (u u1 u2 : Str) (x y z : V) (a b c : List Int) (k : Nat) (n : Int), vs = [.ref m, .ref l] ∧ H m = some (.tup [.str u, x]) ∧ H l = some (.lst [.ref t1, .ref t2]) ∧ H t1 = some (.tup [.str u1, y]) ∧ H t2 = some (.tup [.str u2, z]) ∧
  TI a x H ∧ TI b y H ∧ TI c z H ∧ Alloc a k n ∧ Alloc b k n ∧ Alloc c k n ∧ 1 ≤ k ∧ k ≤ 5 ∧ n ≤ 20 ∧ ∀ H', Same H H' → Q .non H'
theorem ok_check_like (T : Txt K mg) : Ok P w base 3 T.check_like sp_check_like := by
  have nd := sc_check_like.nd
  refine T.check_like.F.ok sc_check_like (fun vs H Q E h => ?_) (fun cdv A outer s H vs Q E hr h => ?_)
  · obtain ⟨m, l, t1, t2, u, u1, u2, x, y, z, a, b, c, k, n, rfl, _⟩ := h
    rfl
  · obtain ⟨m, l, t1, t2, u, u1, u2, x, y, z, a, b, c, k, n, rfl, hm, hl, h1, h2, ha, hb, hc, na, nb, nc, hk, hk5, hn, q⟩ := h
    refine ⟨_, (pss_cons (ps_asg (pv 0) (pg_tup rfl (pgs_cons (pg_name (i := 2) nd rfl (by first | exact .inl rfl | exact .inr rfl)) (pgs_cons (pg_name (i := 3) nd rfl (by first | exact .inl rfl | exact .inr rfl)) pgs_nil))))
      (pss_cons (ps_if (pt_not (pt_val (pe_call (ok_is_some_allocation T) (hr.mono (by decide)) rfl T.is_some_allocation.g T.is_some_allocation.F.kp T.is_some_allocation.B .nil pass0 (pa_cons (pv 3) pa_nil)))) pss_never pss_nil)
      (pss_one (ps_for PassesOwn.never rfl (pi_list (pv 1)) (pg_tup rfl (pgs_cons (pg_name (i := 4) nd rfl (by first | exact .inl rfl | exact .inr rfl)) (pgs_cons (pg_name (i := 5) nd rfl (by first | exact .inl rfl | exact .inr rfl)) pgs_nil)))
        (pss_one (ps_if (pt_not (pt_val (pe_call (ok_is_allocation T) (hr.mono (by decide)) rfl T.is_allocation.g T.is_allocation.F.kp T.is_allocation.B .nil pass0 (pa_cons (pv 5) (pa_cons (pe_callB (r := rLen K) call_len_seq (by rfl) T.n_len (by decide +kernel) (pa_cons (pv 3) pa_nil)) (pa_cons (pe_callB (r := rSumT K) (LmR.cr_sumT rfl) (by rfl) T.n_sum (by decide +kernel) (pa_cons (pv 3) pa_nil)) pa_nil)))))) pss_never pss_nil)))))), ?_⟩
    -- name, value = model
    refine ⟨.ref m, rfl, m, [.str u, x], rfl, SqT.of hm, rfl, .str u, [x], rfl, x, [], rfl, rfl, ?_⟩
    -- if not is_some_allocation(value)
    refine ⟨x, rfl, x, a, k, n, rfl, ha, na, hk, hk5, hn, fun H1 e1 => ⟨true, rfl, iteF ?_⟩⟩
    -- for other_name, other in others
    refine ⟨.ref l, rfl, l, rfl, ⟨_, SqL.of (e1 l _ hl)⟩, ?_⟩
    refine for_list (xs := [V.ref t1, V.ref t2]) (fun i σ H' => ∃ s4 s5, σ = [some (.ref m), some (.ref l), some (.str u), some x, s4, s5] ∧ Same H H') ⟨none, none, rfl, e1⟩
      (fun i σ H' _ p => by obtain ⟨_, _, _, e⟩ := p; exact SqL.of (e l _ hl)) (fun i v σ H' hv p => ?_) fun σ H' p => ?_
    · obtain ⟨s4, s5, rfl, e⟩ := p
      obtain ⟨t, un, d, y', rfl, ht, hy, nd'⟩ : ∃ (t : Addr) (un : Str) (d : List Int) (y' : V), v = .ref t ∧ H t = some (.tup [.str un, y']) ∧ TI d y' H ∧ Alloc d k n := by
        match i, hv with
        | 0, hv => exact ⟨t1, u1, b, y, (Option.some.inj hv).symm, h1, hb, nb⟩
        | 1, hv => exact ⟨t2, u2, c, z, (Option.some.inj hv).symm, h2, hc, nc⟩
        | i + 2, hv => simp at hv
      refine ⟨t, [.str un, y'], rfl, SqT.of (e t _ ht), rfl, .str un, [y'], rfl, y', [], rfl, rfl, ?_⟩
      obtain ⟨pa, rfl, qa⟩ := ha.mono e
      refine ⟨y', rfl, .ref pa, rfl, pa, _, rfl, .inr (SqT.of qa), .ref pa, rfl, pa, a, rfl, SqT.of qa, y', d, k, n, ?_, hy.mono e, nd', by omega, fun H2 e2 => ⟨true, rfl, iteF ⟨_, _, rfl, e.trans e2⟩⟩⟩
      rw [List.length_map, na.1, na.2.2]
      rfl
    · obtain ⟨s4, s5, rfl, e⟩ := p
      exact q H' e
/-- three allocations, at their places -/
structure A3 (x y z : V) (a b c : List Int) (k : Nat) (n : Int) (H : Hp) : Prop where
  ha : TI a x H
  hb : TI b y H
  hc : TI c z H
  na : Alloc a k n
  nb : Alloc b k n
  nc : Alloc c k n
  k1 : 1 ≤ k
  k5 : k ≤ 5
  n20 : n ≤ 20
theorem A3.mono {x y z : V} {a b c : List Int} {k : Nat} {n : Int} {H H' : Hp} (h : A3 x y z a b c k n H) (e : Same H H') : A3 x y z a b c k n H' :=
  ⟨h.ha.mono e, h.hb.mono e, h.hc.mono e, h.na, h.nb, h.nc, h.k1, h.k5, h.n20⟩
def sp_check_three : Sp := fun vs H Q _ => ∃ (x y z : V) (a b c : List Int) (k : Nat) (n : Int), vs = [x, y, z] ∧ A3 x y z a b c k n H ∧ ∀ H', Same H H' → Q .non H'
theorem ok_check_three (T : Txt K mg) : Ok P w base 4 T.check_three sp_check_three := by
  have nd := sc_check_three.nd
  refine T.check_three.F.ok sc_check_three (fun vs H Q E h => ?_) (fun cdv A outer s H vs Q E hr h => ?_)
  · obtain ⟨x, y, z, a, b, c, k, n, rfl, _⟩ := h
    rfl
  · obtain ⟨x, y, z, a, b, c, k, n, rfl, A, q⟩ := h
    refine ⟨_, (pss_one (ps_expr (pe_call (ok_check_like T) (hr.mono (by decide)) rfl T.check_like.g T.check_like.F.kp T.check_like.B .nil pass0 (pa_cons (pe_tup (pa_cons pe_str (pa_cons (pv 0) pa_nil))) (pa_cons (pe_lst (pa_cons (pe_tup (pa_cons pe_str (pa_cons (pv 1) pa_nil))) (pa_cons (pe_tup (pa_cons pe_str (pa_cons (pv 2) pa_nil))) pa_nil))) pa_nil))))), ?_⟩
    refine ⟨x, rfl, by show 2 ≤ sizeLine; decide, fun m nm => ⟨y, rfl, by show 2 ≤ sizeLine; decide, fun t1 n1 => ⟨z, rfl, by show 2 ≤ sizeLine; decide, fun t2 n2 => ⟨by show 2 ≤ sizeLine; decide, fun l nl => ?_⟩⟩⟩⟩
    have s1 := same_new (o := .tup [.str "first", x]) nm
    have s2 := same_new (o := .tup [.str "second", y]) n1
    have s3 := same_new (o := .tup [.str "third", z]) n2
    have s4 := same_new (o := .lst [.ref t1, .ref t2]) nl
    have s := ((s1.trans s2).trans s3).trans s4
    have B := A.mono s
    exact ⟨m, l, t1, t2, _, _, _, x, y, z, a, b, c, k, n, rfl, s4 _ _ (s3 _ _ (s2 _ _ upd_same)), upd_same, s4 _ _ (s3 _ _ upd_same), s4 _ _ upd_same, B.ha, B.hb, B.hc, B.na, B.nb, B.nc, B.k1, B.k5, B.n20, fun H' e => q H' (s.trans e)⟩
/-- the excess -/
def exc (k : Nat) (a b c : List Int) (n : Int) : Int := Lm.pos ((medL k a b c).sum - n)
def sp_extra : Sp := fun vs H Q _ => ∃ (t : Addr) (x y z : V) (a b c : List Int) (k : Nat) (n : Int), vs = [.ref t] ∧ H t = some (.tup [x, y, z]) ∧ A3 x y z a b c k n H ∧ ∀ H', Same H H' → Q (.int (exc k a b c n)) H'
theorem ok_extra (T : Txt K mg) : Ok P w base 5 T.extra sp_extra := by
  have nd := sc_extra.nd
  refine T.extra.F.ok sc_extra (fun vs H Q E h => ?_) (fun cdv A outer s H vs Q E hr h => ?_)
  · obtain ⟨t, x, y, z, a, b, c, k, n, rfl, _⟩ := h
    rfl
  · obtain ⟨t, x, y, z, a, b, c, k, n, rfl, ht, A, q⟩ := h
    refine ⟨_, (pss_one (ps_ret (pe_callB (call_max2 rfl) (by rfl) T.n_max (by decide +kernel) (pa_cons pe_int (pa_cons (pe_op op_sub (pe_callB (r := rSumT K) (LmR.cr_sumT rfl) (by rfl) T.n_sum (by decide +kernel) (pa_cons (StX.pe_callS1 ((ok_medians T).raw T.medians.B .nil) (hr.mono (by decide)) T.medians.F.kp rfl T.medians.g pass0 (pv 0)) pa_nil)) (pe_callB (r := rSumT K) (LmR.cr_sumT rfl) (by rfl) T.n_sum (by decide +kernel) (pa_cons (pe_ix (r := rIxT K) ix_tup (pv 0) pe_int (fun _ _ => rfl)) pa_nil))) pa_nil))))), ?_⟩
    refine ⟨.ref t, rfl, t, [x, y, z], rfl, .inl (SqT.of ht), x, y, z, a, b, c, k, n, rfl, A.ha, A.hb, A.hc, A.na, A.nb, A.nc, A.k1, A.k5, A.n20, fun v H1 e1 hm => ?_⟩
    obtain ⟨pm, rfl, qm⟩ := hm
    have B := A.mono e1
    obtain ⟨pa, rfl, qa⟩ := B.ha
    refine ⟨pm, _, rfl, SqT.of qm, .ref t, rfl, t, [.ref pa, y, z], _, .ref pa, rfl, rfl, SqT.of (e1 _ _ ht), atI_nat (j := 0) rfl, pa, a, rfl, SqT.of qa, _, _, rfl, rfl, 0, _, rfl, ?_⟩
    have := q H1 e1
    unfold exc Lm.pos at this
    rw [A.na.2.2]
    exact this
/-! ### each index as often as its count says -/
theorem rp_congr {f g : Nat → Int} : ∀ {k : Nat}, (∀ i, i < k → f i = g i) → Lm.rp f k = Lm.rp g k
  | 0, _ => rfl
  | k + 1, h => by
    show Lm.rp f k ++ List.replicate (f k).toNat (k : Int) = Lm.rp g k ++ List.replicate (g k).toNat (k : Int)
    rw [rp_congr fun i hi => h i (by omega), h k (by omega)]
theorem rp_small {f : Nat → Int} : ∀ {k : Nat}, (∀ i, i < k → f i ≤ 20) → (Lm.rp f k).length ≤ 20 * k
  | 0, _ => Nat.le_refl _
  | k + 1, h => by
    have ih := rp_small (k := k) fun i hi => h i (by omega)
    have hk := h k (by omega)
    show (Lm.rp f k ++ List.replicate (f k).toNat (k : Int)).length ≤ 20 * (k + 1)
    rw [List.length_append, List.length_replicate]
    omega
def sp_repeated : Sp := fun vs H Q _ => ∃ (p : Addr) (f : Nat → Int) (k : Nat), vs = [.ref p] ∧ H p = some (.lst ((List.range k).map fun i => V.int (f i))) ∧ k ≤ 5 ∧ (∀ i, i < k → 0 ≤ f i ∧ f i ≤ 20) ∧
  ∀ r H', Same H H' → H r = none → H' r = some (.lst ((Lm.rp f k).map V.int)) → Q (.ref r) H'
theorem ok_repeated (T : Txt K mg) : Ok P w base 1 T.repeated sp_repeated := by
  have nd := sc_repeated.nd
  refine T.repeated.F.ok sc_repeated (fun vs H Q E h => ?_) (fun cdv A outer s H vs Q E hr h => ?_)
  · obtain ⟨p, f, k, rfl, _⟩ := h
    rfl
  · obtain ⟨p, f, k, rfl, hp, hk, hf, q⟩ := h
    refine ⟨_, (pss_cons (ps_set (i := 1) nd rfl (by first | exact .inl rfl | exact .inr rfl) (pe_lst pa_nil))
      (pss_cons (ps_for PassesOwn.never rfl (pi_enum (by rfl) T.n_enumerate (pa_cons (pv 0) pa_nil)) (pg_tup rfl (pgs_cons (pg_name (i := 2) nd rfl (by first | exact .inl rfl | exact .inr rfl)) (pgs_cons (pg_name (i := 3) nd rfl (by first | exact .inl rfl | exact .inr rfl)) pgs_nil)))
        (pss_one (ps_expr (pe_bm PySem.F.plainAttrs_list PySem.F.slot_list_extend PySem.F.type_list_extend mt_extend (pv 1) (pa_cons (pe_op op_rep (pe_lst (pa_cons (pv 2) pa_nil)) (pv 3)) pa_nil)))))
      (pss_one (ps_ret (pv 1))))), ?_⟩
    refine ⟨Nat.zero_le _, fun r nr => ?_⟩
    have s1 := same_new (o := .lst []) nr
    refine ⟨.ref p, rfl, p, _, rfl, SqL.of (s1 _ _ hp), ?_⟩
    have len : ((List.range k).map fun i => V.int (f i)).length = k := by rw [List.length_map, List.length_range]
    refine for_it walk_enum (fun i σ H' => ∃ s2 s3, σ = [some (.ref p), some (.ref r), s2, s3] ∧ Same H H' ∧ H' r = some (.lst ((Lm.rp f i).map V.int))) ⟨none, none, rfl, s1, upd_same⟩
      (fun i σ H' _ pv => by obtain ⟨_, _, _, e, _⟩ := pv; exact SqL.of (e _ _ hp)) (fun i v σ H' H2 hi pv y => ?_) fun σ H' pv => ?_
    · obtain ⟨s2, s3, rfl, e, hr'⟩ := pv
      obtain ⟨t, x1, x2, rfl, nt, rfl, h1, h2⟩ := y
      have ei := Option.some.inj h1
      subst ei
      rw [len] at hi
      have e2 : x2 = .int (f i) := by
        have h2 : ((List.range k).map fun i => V.int (f i))[i]? = some x2 := h2
        rw [List.getElem?_map, List.getElem?_range hi] at h2
        exact (Option.some.inj h2).symm
      subst e2
      obtain ⟨f0, f20⟩ := hf i hi
      have st := same_new (o := .tup [.int (i : Nat), .int (f i)]) nt
      refine ⟨t, [.int (i : Nat), .int (f i)], rfl, SqT.of upd_same, rfl, _, [.int (f i)], rfl, _, [], rfl, rfl, ?_⟩
      refine ⟨.ref r, rfl, .inl ⟨rfl, _, SqL.of (st _ _ hr')⟩, .int (i : Nat), rfl, by show 1 ≤ sizeLine; decide, fun l nl => ?_⟩
      have sl := same_new (o := .lst [.int (i : Nat)]) nl
      refine ⟨.int (f i), rfl, l, f i, [.int (i : Nat)], rfl, rfl, upd_same, by omega, by omega, small (by show 1 * _ ≤ _; omega), fun m nm => ?_⟩
      have sm := same_new (o := .lst (List.replicate (f i).toNat [V.int (i : Nat)]).flatten) nm
      have small_i := rp_small (f := f) (k := i) fun j hj => (hf j (by omega)).2
      have ss : Same H' (upd (upd (upd H' t (.tup [.int (i : Nat), .int (f i)])) l (.lst [.int (i : Nat)])) m (.lst (List.replicate (f i).toNat [V.int (i : Nat)]).flatten)) := (st.trans sl).trans sm
      refine ⟨r, m, _, _, rfl, rfl, ss _ _ hr', upd_same, small ?_, ?_⟩
      · rw [List.length_map]
        have : (List.replicate (f i).toNat [V.int (i : Nat)]).flatten.length = (f i).toNat := by simp
        rw [this]
        omega
      · refine ⟨_, _, rfl, same_mut (e.trans ss) nr, ?_⟩
        rw [upd_same]
        show some (HO.lst _) = some (HO.lst ((Lm.rp f i ++ List.replicate (f i).toNat (i : Int)).map V.int))
        rw [List.map_append, List.map_replicate]
        congr 3
        generalize (f i).toNat = c
        induction c with
        | zero => rfl
        | succ c ih => rw [List.replicate_succ, List.replicate_succ, List.flatten_cons, ih]; rfl
    · obtain ⟨s2, s3, rfl, e, hr'⟩ := pv
      rw [len] at hr'
      exact ⟨.ref r, rfl, q r H' e nr hr'⟩
end
end LmW
/-! triples.py: twice_at, single_at, with_single. -/
namespace LmW
open PySem PySem.Spec PyProof.Rows L2
section
variable {P : Program} {w : World} {K : PySem.W.Frag} {mg : Str → Option Value} {base : Heap}
/-- the one at a place, and the others -/
def Pick {α : Type} (p : Nat) (x y z u v t : α) : Prop := (p = 0 ∧ u = x ∧ v = y ∧ t = z) ∨ (p = 1 ∧ u = y ∧ v = x ∧ t = z) ∨ (p = 2 ∧ u = z ∧ v = x ∧ t = y)
theorem Pick.own {x y z u v t : V} {p : Nat} (h : Pick p x y z u v t) : atI [x, y, z] (p : Int) = some u := by
  rcases h with ⟨rfl, rfl, _⟩ | ⟨rfl, rfl, _⟩ | ⟨rfl, rfl, _⟩
  · exact atI_nat (j := 0) rfl
  · exact atI_nat (j := 1) rfl
  · exact atI_nat (j := 2) rfl
theorem Pick.others {x y z u v t : V} {p : Nat} (h : Pick p x y z u v t) : ((List.range 3).filter fun i => decide (i ≠ p)).map (fun i => [x, y, z].getD i .non) = [v, t] := by
  rcases h with ⟨rfl, _, rfl, rfl⟩ | ⟨rfl, _, rfl, rfl⟩ | ⟨rfl, _, rfl, rfl⟩ <;> rfl
/-- what the shares are: whole, small -/
def Shares (a : List Int) (k : Nat) : Prop := a.length = k ∧ ∀ x ∈ a, 0 ≤ x ∧ x ≤ 20
theorem Shares.at {a : List Int} {k : Nat} (h : Shares a k) (i : Nat) : 0 ≤ a.getD i 0 ∧ a.getD i 0 ≤ 20 := by
  rw [List.getD_eq_getElem?_getD]
  cases e : a[i]? with
  | none => exact ⟨Int.le_refl _, by decide⟩
  | some x => exact h.2 x (List.mem_of_getElem? e)
theorem Alloc.shares {a : List Int} {k : Nat} {n : Int} (h : Alloc a k n) (hn : n ≤ 20) : Shares a k :=
  ⟨h.1, fun x hx => ⟨h.2.1 x hx, by
    have := mem_le_sum h.2.1 hx
    have := h.2.2
    omega⟩⟩
def sp_of (f : Int → Int → Int → Int) : Sp := fun vs H Q _ => ∃ (t : Addr) (x y z u v s : V) (p : Nat) (a b c : List Int) (k : Nat), vs = [.ref t, .int p] ∧ H t = some (.tup [x, y, z]) ∧ Pick p x y z u v s ∧ TI a u H ∧ TI b v H ∧ TI c s H ∧
  Shares a k ∧ Shares b k ∧ Shares c k ∧ k ≤ 5 ∧ ∀ r H', Same H H' → H r = none → H' r = some (.lst ((Lm.rp (g3 f a b c) k).map V.int)) → Q (.ref r) H'
abbrev sp_twice_at : Sp := sp_of Lm.f2
abbrev sp_single_at : Sp := sp_of Lm.f1
theorem f2_small {x y z : Int} (h1 : 0 ≤ x ∧ x ≤ 20) (h2 : 0 ≤ y ∧ y ≤ 20) (h3 : 0 ≤ z ∧ z ≤ 20) : 0 ≤ Lm.f2 x y z ∧ Lm.f2 x y z ≤ 20 := by
  simp only [Lm.f2, Lm.pos, Lm.pmin]
  omega
theorem f1_small {x y z : Int} (h1 : 0 ≤ x ∧ x ≤ 20) (h2 : 0 ≤ y ∧ y ≤ 20) (h3 : 0 ≤ z ∧ z ≤ 20) : 0 ≤ Lm.f1 x y z ∧ Lm.f1 x y z ≤ 20 := by
  simp only [Lm.f1, Lm.pos, Lm.pmax]
  omega
theorem ok_twice_at (T : Txt K mg) : Ok P w base 2 T.twice_at sp_twice_at := by
  have nd := sc_twice_at.nd
  refine T.twice_at.F.ok sc_twice_at (fun vs H Q E h => ?_) (fun cdv A outer s H vs Q E hr h => ?_)
  · obtain ⟨t, x, y, z, u, v, s, p, a, b, c, k, rfl, _⟩ := h
    rfl
  · obtain ⟨t, x, y, z, u, v, d, p, a, b, c, k, rfl, ht, pk, ha, hb, hc, sa, sb, sc, hk, q⟩ := h
    refine ⟨_, (pss_cons (ps_setLc (i := 2) (own := [("k", 4)]) (g := gName 4) rfl nd rfl rfl (sw_true rfl rfl rfl (by decide +kernel)) (pi_range1 (by rfl) T.n_range (pa_cons pe_int pa_nil)) (blkOk_by (by kernel_rfl)) (fun _ _ _ _ _ => (pg_name (i := 4) nd rfl (by first | exact .inl rfl | exact .inr rfl))) (fun _ _ _ _ _ => (pts_one (pt_cmpR op_ne (pv 4) (pv 1) (nomark _)))) (fun _ _ _ _ _ => (pe_ix (r := rIxT K) ix_tup (pv 0) (pv 4) (fun _ _ => rfl))))
      (pss_cons (ps_set (i := 3) nd rfl (by first | exact .inl rfl | exact .inr rfl) (pe_ix (r := rIxT K) ix_tup (pv 0) (pv 1) (fun _ _ => rfl)))
      (pss_one (ps_ret (pe_call (ok_repeated T) (hr.mono (by decide)) rfl T.repeated.g T.repeated.F.kp T.repeated.B .nil pass0 (pa_cons (pe_lc (own := [("share", 5), ("one", 6), ("two", 7)]) (g := gTup K 3 (gCons (gName 5) (gCons (gName 6) (gCons (gName 7) gNil)))) (tt := tYes) rfl nd (LmR.pi_zip3 (by rfl) T.n_zip (pa_cons (pv 3) (pa_cons (pe_ix (r := rIxL K) ix_list (pv 2) pe_int (fun _ _ => rfl)) (pa_cons (pe_ix (r := rIxL K) ix_list (pv 2) pe_int (fun _ _ => rfl)) pa_nil)))) (blkOk_by (by kernel_rfl)) (fun _ _ _ _ _ => (pg_tup rfl (pgs_cons (pg_name (i := 5) nd rfl (by first | exact .inl rfl | exact .inr rfl)) (pgs_cons (pg_name (i := 6) nd rfl (by first | exact .inl rfl | exact .inr rfl)) (pgs_cons (pg_name (i := 7) nd rfl (by first | exact .inl rfl | exact .inr rfl)) pgs_nil))))) (fun _ _ _ _ _ => pts_nil) (fun _ _ _ _ _ => (pe_callB (call_max2 rfl) (by rfl) T.n_max (by decide +kernel) (pa_cons pe_int (pa_cons (pe_op op_sub (pe_callB (call_min2 rfl) (by rfl) T.n_min (by decide +kernel) (pa_cons (pv 6) (pa_cons (pv 7) pa_nil))) (pv 5)) pa_nil))))) pa_nil)))))), ?_⟩
    -- others = [allocations[k] for k in range(3) if k != place]
    refine ⟨3, rfl, by decide, by decide, fun D hD => ?_⟩
    refine lc_same (walk_range (lo := 0) (n := 3)) hD (fun _ _ => trivial) yfn_same (fun i => decide (i ≠ p)) (fun i v _ => v = [x, y, z].getD i .non) (fun _ _ _ _ _ _ r => r) (by decide) (fun i v' H1 H2 hi e _ yl K1 K0 k1 k0 => ?_) fun H1 os e1 hD1 ey => ?_
    · obtain ⟨rfl, rfl⟩ := yl
      refine ⟨rfl, .int (0 + (i : Int)), rfl, .int p, rfl, rfl, decide (i ≠ p), ?_, ?_⟩
      · congr 1
        by_cases h : i = p
        · subst h
          simp
        · have : ¬ (V.int (0 + (i : Int)) = V.int (p : Int)) := fun z => h (by have := V.int.inj z; omega)
          rw [decide_eq_false this, decide_eq_true h]
          rfl
      · by_cases h : i = p
        · rw [decide_eq_false (fun z => z h)]
          exact iteF (k0 (decide_eq_false (fun z => z h)) _ (Same.refl _))
        · rw [decide_eq_true h]
          refine iteT ⟨.ref t, rfl, .int (0 + (i : Int)), rfl, t, [x, y, z], _, [x, y, z].getD i .non, rfl, rfl, SqT.of (e _ _ ht), ?_, k1 (decide_eq_true h) _ _ (Same.refl _) rfl⟩
          rw [Int.zero_add]
          refine atI_nat ?_
          have hi3 : i < 3 := hi
          match i, hi3 with
          | 0, _ => rfl
          | 1, _ => rfl
          | 2, _ => rfl
    · have eo : os = [v, d] := (Each.vals ey).trans pk.others
      subst eo
      -- own = allocations[place]
      refine ⟨.ref t, rfl, .int p, rfl, t, [x, y, z], _, u, rfl, rfl, SqT.of (e1 _ _ ht), pk.own, ?_⟩
      obtain ⟨pa, rfl, qa⟩ := ha.mono e1
      obtain ⟨pb, rfl, qb⟩ := hb.mono e1
      obtain ⟨pc, rfl, qc⟩ := hc.mono e1
      refine ⟨.ref pa, rfl, .ref D, rfl, D, _, _, .ref pb, rfl, rfl, SqL.of hD1, atI_nat (j := 0) rfl, .ref D, rfl, D, _, _, .ref pc, rfl, rfl, SqL.of hD1, atI_nat (j := 1) rfl,
        pa, pb, pc, _, _, _, rfl, SqT.of qa, SqT.of qb, SqT.of qc, fun D2 hD2 => ?_⟩
      refine lc_same (LmR.walk_zip3 (by simp [sa.1, sb.1]) (by simp [sa.1, sc.1])) hD2 (fun H' e => ⟨SqT.of (e _ _ qa), SqT.of (e _ _ qb), SqT.of (e _ _ qc)⟩) zip_same (fun _ => true) (fun i v _ => v = .int (g3 Lm.f2 a b c i)) (fun _ _ _ _ _ _ r => r)
        (by rw [List.length_map, sa.1]; omega) (fun i v' H2 H3 hi e _ yl K1 K0 k1 k0 => ?_) fun H2 os e2 hD3 ey => ?_
      · obtain ⟨T1, x1, x2, x3, rfl, nt, rfl, h1, h2, h3⟩ := yl
        rw [at_int h1, at_int h2, at_int h3]
        refine ⟨T1, _, rfl, SqT.of upd_same, rfl, _, _, rfl, _, _, rfl, _, [], rfl, rfl, rfl, ?_⟩
        refine ⟨_, rfl, _, rfl, _, _, rfl, _, rfl, _, _, rfl, rfl, 0, _, rfl, ?_⟩
        exact k1 rfl _ _ (same_new nt) rfl
      · have eo := Each.vals ey
        rw [filter_all, List.length_map, sa.1] at eo
        subst eo
        refine ⟨D2, g3 Lm.f2 a b c, k, rfl, hD3, hk, fun i _ => f2_small (sa.at i) (sb.at i) (sc.at i), fun r H' e nr hr' => ?_⟩
        exact q r H' ((e1.trans e2).trans e) ((e1.trans e2).free nr) hr'
theorem ok_single_at (T : Txt K mg) : Ok P w base 2 T.single_at sp_single_at := by
  have nd := sc_single_at.nd
  refine T.single_at.F.ok sc_single_at (fun vs H Q E h => ?_) (fun cdv A outer s H vs Q E hr h => ?_)
  · obtain ⟨t, x, y, z, u, v, s, p, a, b, c, k, rfl, _⟩ := h
    rfl
  · obtain ⟨t, x, y, z, u, v, d, p, a, b, c, k, rfl, ht, pk, ha, hb, hc, sa, sb, sc, hk, q⟩ := h
    refine ⟨_, (pss_cons (ps_setLc (i := 2) (own := [("k", 4)]) (g := gName 4) rfl nd rfl rfl (sw_true rfl rfl rfl (by decide +kernel)) (pi_range1 (by rfl) T.n_range (pa_cons pe_int pa_nil)) (blkOk_by (by kernel_rfl)) (fun _ _ _ _ _ => (pg_name (i := 4) nd rfl (by first | exact .inl rfl | exact .inr rfl))) (fun _ _ _ _ _ => (pts_one (pt_cmpR op_ne (pv 4) (pv 1) (nomark _)))) (fun _ _ _ _ _ => (pe_ix (r := rIxT K) ix_tup (pv 0) (pv 4) (fun _ _ => rfl))))
      (pss_cons (ps_set (i := 3) nd rfl (by first | exact .inl rfl | exact .inr rfl) (pe_ix (r := rIxT K) ix_tup (pv 0) (pv 1) (fun _ _ => rfl)))
      (pss_one (ps_ret (pe_call (ok_repeated T) (hr.mono (by decide)) rfl T.repeated.g T.repeated.F.kp T.repeated.B .nil pass0 (pa_cons (pe_lc (own := [("share", 5), ("one", 6), ("two", 7)]) (g := gTup K 3 (gCons (gName 5) (gCons (gName 6) (gCons (gName 7) gNil)))) (tt := tYes) rfl nd (LmR.pi_zip3 (by rfl) T.n_zip (pa_cons (pv 3) (pa_cons (pe_ix (r := rIxL K) ix_list (pv 2) pe_int (fun _ _ => rfl)) (pa_cons (pe_ix (r := rIxL K) ix_list (pv 2) pe_int (fun _ _ => rfl)) pa_nil)))) (blkOk_by (by kernel_rfl)) (fun _ _ _ _ _ => (pg_tup rfl (pgs_cons (pg_name (i := 5) nd rfl (by first | exact .inl rfl | exact .inr rfl)) (pgs_cons (pg_name (i := 6) nd rfl (by first | exact .inl rfl | exact .inr rfl)) (pgs_cons (pg_name (i := 7) nd rfl (by first | exact .inl rfl | exact .inr rfl)) pgs_nil))))) (fun _ _ _ _ _ => pts_nil) (fun _ _ _ _ _ => (pe_callB (call_max2 rfl) (by rfl) T.n_max (by decide +kernel) (pa_cons pe_int (pa_cons (pe_op op_sub (pv 5) (pe_callB (call_max2 rfl) (by rfl) T.n_max (by decide +kernel) (pa_cons (pv 6) (pa_cons (pv 7) pa_nil)))) pa_nil))))) pa_nil)))))), ?_⟩
    refine ⟨3, rfl, by decide, by decide, fun D hD => ?_⟩
    refine lc_same (walk_range (lo := 0) (n := 3)) hD (fun _ _ => trivial) yfn_same (fun i => decide (i ≠ p)) (fun i v _ => v = [x, y, z].getD i .non) (fun _ _ _ _ _ _ r => r) (by decide) (fun i v' H1 H2 hi e _ yl K1 K0 k1 k0 => ?_) fun H1 os e1 hD1 ey => ?_
    · obtain ⟨rfl, rfl⟩ := yl
      refine ⟨rfl, .int (0 + (i : Int)), rfl, .int p, rfl, rfl, decide (i ≠ p), ?_, ?_⟩
      · congr 1
        by_cases h : i = p
        · subst h
          simp
        · have : ¬ (V.int (0 + (i : Int)) = V.int (p : Int)) := fun z => h (by have := V.int.inj z; omega)
          rw [decide_eq_false this, decide_eq_true h]
          rfl
      · by_cases h : i = p
        · rw [decide_eq_false (fun z => z h)]
          exact iteF (k0 (decide_eq_false (fun z => z h)) _ (Same.refl _))
        · rw [decide_eq_true h]
          refine iteT ⟨.ref t, rfl, .int (0 + (i : Int)), rfl, t, [x, y, z], _, [x, y, z].getD i .non, rfl, rfl, SqT.of (e _ _ ht), ?_, k1 (decide_eq_true h) _ _ (Same.refl _) rfl⟩
          rw [Int.zero_add]
          refine atI_nat ?_
          have hi3 : i < 3 := hi
          match i, hi3 with
          | 0, _ => rfl
          | 1, _ => rfl
          | 2, _ => rfl
    · have eo : os = [v, d] := (Each.vals ey).trans pk.others
      subst eo
      refine ⟨.ref t, rfl, .int p, rfl, t, [x, y, z], _, u, rfl, rfl, SqT.of (e1 _ _ ht), pk.own, ?_⟩
      obtain ⟨pa, rfl, qa⟩ := ha.mono e1
      obtain ⟨pb, rfl, qb⟩ := hb.mono e1
      obtain ⟨pc, rfl, qc⟩ := hc.mono e1
      refine ⟨.ref pa, rfl, .ref D, rfl, D, _, _, .ref pb, rfl, rfl, SqL.of hD1, atI_nat (j := 0) rfl, .ref D, rfl, D, _, _, .ref pc, rfl, rfl, SqL.of hD1, atI_nat (j := 1) rfl,
        pa, pb, pc, _, _, _, rfl, SqT.of qa, SqT.of qb, SqT.of qc, fun D2 hD2 => ?_⟩
      refine lc_same (LmR.walk_zip3 (by simp [sa.1, sb.1]) (by simp [sa.1, sc.1])) hD2 (fun H' e => ⟨SqT.of (e _ _ qa), SqT.of (e _ _ qb), SqT.of (e _ _ qc)⟩) zip_same (fun _ => true) (fun i v _ => v = .int (g3 Lm.f1 a b c i)) (fun _ _ _ _ _ _ r => r)
        (by rw [List.length_map, sa.1]; omega) (fun i v' H2 H3 hi e _ yl K1 K0 k1 k0 => ?_) fun H2 os e2 hD3 ey => ?_
      · obtain ⟨T1, x1, x2, x3, rfl, nt, rfl, h1, h2, h3⟩ := yl
        rw [at_int h1, at_int h2, at_int h3]
        refine ⟨T1, _, rfl, SqT.of upd_same, rfl, _, _, rfl, _, _, rfl, _, [], rfl, rfl, rfl, ?_⟩
        refine ⟨_, rfl, _, rfl, _, rfl, _, _, rfl, _, _, rfl, rfl, 0, _, rfl, ?_⟩
        exact k1 rfl _ _ (same_new nt) rfl
      · have eo := Each.vals ey
        rw [filter_all, List.length_map, sa.1] at eo
        subst eo
        refine ⟨D2, g3 Lm.f1 a b c, k, rfl, hD3, hk, fun i _ => f1_small (sa.at i) (sb.at i) (sc.at i), fun r H' e nr hr' => ?_⟩
        exact q r H' ((e1.trans e2).trans e) ((e1.trans e2).free nr) hr'
/-- one variant at a place, another one at the others -/
def wsL (p : Nat) (s o : Int) : List Int := (List.range 3).map fun k => if k = p then s else o
def sp_with_single : Sp := fun vs H Q _ => ∃ (p : Nat) (s o : Int), vs = [.int p, .int s, .int o] ∧ ∀ v H', Same H H' → TI (wsL p s o) v H' → Q v H'
theorem ok_with_single (T : Txt K mg) : Ok P w base 1 T.with_single sp_with_single := by
  have nd := sc_with_single.nd
  refine T.with_single.F.ok sc_with_single (fun vs H Q E h => ?_) (fun cdv A outer s H vs Q E hr h => ?_)
  · obtain ⟨p, s, o, rfl, _⟩ := h
    rfl
  · obtain ⟨p, s', o, rfl, q⟩ := h
    refine ⟨_, (pss_one (ps_ret (pe_callTy (r := rTup K) call_tuple_of (by rfl) T.n_tuple (by decide +kernel) (pa_cons (pe_lc (own := [("k", 3)]) (g := gName 3) (tt := tYes) rfl nd (pi_range1 (by rfl) T.n_range (pa_cons pe_int pa_nil)) (blkOk_by (by kernel_rfl)) (fun _ _ _ _ _ => (pg_name (i := 3) nd rfl (by first | exact .inl rfl | exact .inr rfl))) (fun _ _ _ _ _ => pts_nil) (fun _ _ _ _ _ => (pe_ifExp (pt_cmpR op_eq (pv 3) (pv 0) (nomark _)) (pv 1) (pv 2)))) pa_nil)))), ?_⟩
    refine ⟨3, rfl, by decide, by decide, fun D hD => ?_⟩
    refine lc_vals (walk_range (lo := 0) (n := 3)) hD (fun _ _ => trivial) yfn_same (fun i => .int (if i = p then s' else o)) (by decide) (fun _ => rfl) (fun i v' H1 H2 hi e yl K1 k1 => ?_) fun H' e hq => ?_
    · obtain ⟨rfl, rfl⟩ := yl
      refine ⟨.int (0 + (i : Int)), rfl, .int p, rfl, rfl, decide (i = p), ?_, ?_⟩
      · congr 1
        by_cases h : i = p
        · subst h
          simp
        · have : ¬ (V.int (0 + (i : Int)) = V.int (p : Int)) := fun z => h (by have := V.int.inj z; omega)
          rw [decide_eq_false this, decide_eq_false h]
      · by_cases h : i = p
        · rw [decide_eq_true h]
          refine iteT ⟨.int s', rfl, ?_⟩
          have := k1 _ (Same.refl _)
          rw [if_pos h] at this
          exact this
        · rw [decide_eq_false h]
          refine iteF ⟨.int o, rfl, ?_⟩
          have := k1 _ (Same.refl _)
          rw [if_neg h] at this
          exact this
    · refine ⟨D, _, rfl, .inl ⟨SqL.of hq, fun l nl => q _ _ (e.trans (same_new nl)) ⟨l, rfl, ?_⟩⟩⟩
      rw [upd_same]
      unfold wsL
      rw [List.map_map]
      rfl
end
end LmW
/-! triples.py: what dealt leans on. -/
namespace LmW
open PySem PySem.Spec PyProof.Rows L2
theorem range_list {α : Type} (d : Int) (F : Int → α) (l : List Int) : (List.range l.length).map (fun i => F (l.getD i d)) = l.map F := by
  refine List.ext_getElem (by simp) fun i h1 h2 => ?_
  have hi : i < l.length := by simpa using h1
  simp [List.getD_eq_getElem?_getD, List.getElem?_eq_getElem hi]
theorem range_list' {α β : Type} (d : α) (F : α → β) (l : List α) : (List.range l.length).map (fun i => F (l.getD i d)) = l.map F := by
  refine List.ext_getElem (by simp) fun i h1 h2 => ?_
  have hi : i < l.length := by simpa using h1
  simp [List.getD_eq_getElem?_getD, List.getElem?_eq_getElem hi]
theorem sum_S {a : List Int} {k : Nat} (h : a.length = k) : a.sum = Lm.S k (fun i => a.getD i 0) := by
  subst h
  unfold Lm.S
  have e := range_list 0 (fun x => x) a
  rw [e, List.map_id']
theorem medL_sum (k : Nat) (a b c : List Int) : (medL k a b c).sum = Lm.S k (fun i => Lm.med (a.getD i 0) (b.getD i 0) (c.getD i 0)) := rfl
theorem al_of {a b c : List Int} {k : Nat} {n : Int} (ha : Alloc a k n) (hb : Alloc b k n) (hc : Alloc c k n) : Lm.Al k n (fun i => a.getD i 0) (fun i => b.getD i 0) (fun i => c.getD i 0) := by
  have pos : ∀ {a : List Int}, (∀ x ∈ a, 0 ≤ x) → ∀ i, 0 ≤ a.getD i 0 := fun {a} h i => by
    rw [List.getD_eq_getElem?_getD]
    cases e : a[i]? with
    | none => exact Int.le_refl _
    | some x => exact h x (List.mem_of_getElem? e)
  exact ⟨pos ha.2.1, pos hb.2.1, pos hc.2.1, by rw [← sum_S ha.1]; exact ha.2.2, by rw [← sum_S hb.1]; exact hb.2.2, by rw [← sum_S hc.1]; exact hc.2.2⟩
theorem min3 {m x y z : Int} (h : m ∈ [x, y, z]) (hm : ∀ u, u ∈ [x, y, z] → m ≤ u) : m = Lm.lo x y z := by
  have h1 := hm x (by simp)
  have h2 := hm y (by simp)
  have h3 := hm z (by simp)
  have h4 : m = x ∨ m = y ∨ m = z := by simpa using h
  simp only [Lm.lo, Lm.pmin]
  omega
theorem cut_from (xs : List V) (j : Nat) : cutV xs (some (j : Int)) none = xs.drop j := by
  unfold cutV
  rw [show HT.sIx xs.length 0 (some (j : Int)) = min j xs.length from HT.sIx_nat xs.length 0 j, HT.sIx_none]
  by_cases h : j ≤ xs.length
  · rw [Nat.min_eq_left h]
    exact List.take_of_length_le (by rw [List.length_drop]; exact Nat.le_refl _)
  · have h' : xs.length ≤ j := by omega
    rw [Nat.min_eq_right h', List.drop_of_length_le (Nat.le_refl _), List.drop_of_length_le h', List.take_nil]
theorem cut_to (xs : List V) (j : Nat) : cutV xs none (some (j : Int)) = xs.take j := by
  unfold cutV
  rw [HT.sIx_none, show HT.sIx xs.length xs.length (some (j : Int)) = min j xs.length from HT.sIx_nat xs.length xs.length j]
  show (xs.drop 0).take (min j xs.length - 0) = xs.take j
  rw [List.drop_zero, Nat.sub_zero]
  by_cases h : j ≤ xs.length
  · rw [Nat.min_eq_left h]
  · rw [Nat.min_eq_right (by omega), List.take_of_length_le (Nat.le_refl _), List.take_of_length_le (by omega)]
/-- a triple, as a tuple -/
def RT (t : Lm.Tr) (v : V) (H : Hp) : Prop := TI [t.1, t.2.1, t.2.2] v H
theorem RT.mono {t : Lm.Tr} {v : V} {H H' : Hp} (h : RT t v H) (s : Same H H') : RT t v H' := TI.mono h s
/-- a list of ints at p, apart from three others -/
structure In3 (H : Hp) (tr tw sg p : Addr) (l : List Int) : Prop where
  at_ : H p = some (.lst (l.map V.int))
  n1 : p ≠ tr
  n2 : p ≠ tw
  n3 : p ≠ sg
structure DS (H0 H : Hp) (tr tw sg : Addr) (T : List Lm.Tr) (t0 t1 t2 s0 s1 s2 : List Int) : Prop where
  same : Same H0 H
  f1 : H0 tr = none
  f2 : H0 tw = none
  f3 : H0 sg = none
  d12 : tr ≠ tw
  d13 : tr ≠ sg
  d23 : tw ≠ sg
  trs : ∃ vs, H tr = some (.lst vs) ∧ Each RT H T vs
  tws : ∃ p0 p1 p2, H tw = some (.lst [.ref p0, .ref p1, .ref p2]) ∧ In3 H tr tw sg p0 t0 ∧ In3 H tr tw sg p1 t1 ∧ In3 H tr tw sg p2 t2
  sgs : ∃ p0 p1 p2, H sg = some (.lst [.ref p0, .ref p1, .ref p2]) ∧ In3 H tr tw sg p0 s0 ∧ In3 H tr tw sg p1 s1 ∧ In3 H tr tw sg p2 s2
section
variable {H0 H H' : Hp} {tr tw sg p : Addr} {T : List Lm.Tr} {t0 t1 t2 s0 s1 s2 l : List Int}
theorem In3.mono (h : In3 H tr tw sg p l) (e : Same H H') : In3 H' tr tw sg p l := ⟨e _ _ h.at_, h.n1, h.n2, h.n3⟩
theorem DS.mono (h : DS H0 H tr tw sg T t0 t1 t2 s0 s1 s2) (e : Same H H') : DS H0 H' tr tw sg T t0 t1 t2 s0 s1 s2 := by
  obtain ⟨vs, h1, h2⟩ := h.trs
  obtain ⟨p0, p1, p2, h3, h4, h5, h6⟩ := h.tws
  obtain ⟨q0, q1, q2, h7, h8, h9, h10⟩ := h.sgs
  exact ⟨h.same.trans e, h.f1, h.f2, h.f3, h.d12, h.d13, h.d23, ⟨vs, e _ _ h1, h2.mono fun _ _ r => r.mono e⟩, ⟨p0, p1, p2, e _ _ h3, h4.mono e, h5.mono e, h6.mono e⟩, ⟨q0, q1, q2, e _ _ h7, h8.mono e, h9.mono e, h10.mono e⟩⟩
/-- a list among the three changes: what is no list stays, and all others -/
theorem RT.write {t : Lm.Tr} {v : V} {o : HO} {ys : List V} (h : RT t v H) (hp : H p = some (.lst ys)) : RT t v (upd H p o) := by
  obtain ⟨a, e, q⟩ := h
  refine ⟨a, e, ?_⟩
  rw [upd_ne (ne_of q hp (by intro z; cases z))]
  exact q
/-- a triple is put behind -/
theorem DS.app (h : DS H0 H tr tw sg T t0 t1 t2 s0 s1 s2) {t : Lm.Tr} {v : V} {ys : List V} (hy : H tr = some (.lst ys)) (r : RT t v H) : DS H0 (upd H tr (.lst (ys ++ [v]))) tr tw sg (T ++ [t]) t0 t1 t2 s0 s1 s2 := by
  obtain ⟨vs, h1, h2⟩ := h.trs
  obtain ⟨p0, p1, p2, h3, h4, h5, h6⟩ := h.tws
  obtain ⟨q0, q1, q2, h7, h8, h9, h10⟩ := h.sgs
  rw [hy] at h1
  cases h1
  have one : ∀ {p l}, In3 H tr tw sg p l → In3 (upd H tr (.lst (ys ++ [v]))) tr tw sg p l := fun {p l} x => ⟨by rw [upd_ne x.n1]; exact x.at_, x.n1, x.n2, x.n3⟩
  exact ⟨same_mut h.same h.f1, h.f1, h.f2, h.f3, h.d12, h.d13, h.d23, ⟨_, upd_same, Each.app (h2.mono fun _ _ r => r.write hy) (.cons (r.write hy) .nil)⟩,
    ⟨p0, p1, p2, by rw [upd_ne h.d12.symm]; exact h3, one h4, one h5, one h6⟩, ⟨q0, q1, q2, by rw [upd_ne h.d13.symm]; exact h7, one h8, one h9, one h10⟩⟩
theorem In3.write {o : HO} {q : Addr} (h : In3 H tr tw sg p l) (hq : q = tr ∨ q = tw ∨ q = sg) : In3 (upd H q o) tr tw sg p l := by
  refine ⟨?_, h.n1, h.n2, h.n3⟩
  rw [upd_ne (fun z => by
    rcases hq with e | e | e
    · exact h.n1 (z.trans e)
    · exact h.n2 (z.trans e)
    · exact h.n3 (z.trans e))]
  exact h.at_
/-- an item of the single ones is put anew -/
theorem DS.setS (h : DS H0 H tr tw sg T t0 t1 t2 s0 s1 s2) {q0 q1 q2 : Addr} {r0 r1 r2 : List Int} (h0 : In3 H tr tw sg q0 r0) (h1 : In3 H tr tw sg q1 r1) (h2 : In3 H tr tw sg q2 r2) :
    DS H0 (upd H sg (.lst [.ref q0, .ref q1, .ref q2])) tr tw sg T t0 t1 t2 r0 r1 r2 := by
  obtain ⟨vs, g1, g2⟩ := h.trs
  obtain ⟨p0, p1, p2, h3, h4, h5, h6⟩ := h.tws
  obtain ⟨_, _, _, h7, _⟩ := h.sgs
  have w : sg = tr ∨ sg = tw ∨ sg = sg := .inr (.inr rfl)
  exact ⟨same_mut h.same h.f3, h.f1, h.f2, h.f3, h.d12, h.d13, h.d23, ⟨vs, by rw [upd_ne h.d13]; exact g1, g2.mono fun _ _ r => r.write h7⟩,
    ⟨p0, p1, p2, by rw [upd_ne h.d23]; exact h3, h4.write w, h5.write w, h6.write w⟩, ⟨q0, q1, q2, upd_same, h0.write w, h1.write w, h2.write w⟩⟩
theorem DS.setT (h : DS H0 H tr tw sg T t0 t1 t2 s0 s1 s2) {q0 q1 q2 : Addr} {r0 r1 r2 : List Int} (h0 : In3 H tr tw sg q0 r0) (h1 : In3 H tr tw sg q1 r1) (h2 : In3 H tr tw sg q2 r2) :
    DS H0 (upd H tw (.lst [.ref q0, .ref q1, .ref q2])) tr tw sg T r0 r1 r2 s0 s1 s2 := by
  obtain ⟨vs, g1, g2⟩ := h.trs
  obtain ⟨_, _, _, h3, _⟩ := h.tws
  obtain ⟨p0, p1, p2, h7, h8, h9, h10⟩ := h.sgs
  have w : tw = tr ∨ tw = tw ∨ tw = sg := .inr (.inl rfl)
  exact ⟨same_mut h.same h.f2, h.f1, h.f2, h.f3, h.d12, h.d13, h.d23, ⟨vs, by rw [upd_ne h.d12]; exact g1, g2.mono fun _ _ r => r.write h3⟩,
    ⟨q0, q1, q2, upd_same, h0.write w, h1.write w, h2.write w⟩, ⟨p0, p1, p2, by rw [upd_ne h.d23.symm]; exact h7, h8.write w, h9.write w, h10.write w⟩⟩
/-- a list that is new -/
theorem DS.fresh (h : DS H0 H tr tw sg T t0 t1 t2 s0 s1 s2) {ys : List V} (np : H p = none) (ey : ys = l.map V.int) : In3 (upd H p (.lst ys)) tr tw sg p l := by
  subst ey
  obtain ⟨vs, g1, g2⟩ := h.trs
  obtain ⟨p0, p1, p2, h3, _⟩ := h.tws
  obtain ⟨q0, q1, q2, h7, _⟩ := h.sgs
  exact ⟨upd_same, (fun z => by rw [z, g1] at np; cases np), (fun z => by rw [z, h3] at np; cases np), (fun z => by rw [z, h7] at np; cases np)⟩
end
theorem zip_at {α β : Type} {a : List α} {b : List β} {j : Nat} {x : α} {y : β} (h1 : a[j]? = some x) (h2 : b[j]? = some y) : (List.zip a b)[j]? = some (x, y) := by
  obtain ⟨l1, e1⟩ := List.getElem?_eq_some_iff.mp h1
  obtain ⟨l2, e2⟩ := List.getElem?_eq_some_iff.mp h2
  rw [List.getElem?_eq_getElem (by rw [List.length_zip]; omega), List.getElem_zip, e1, e2]
/-- a group of triples -/
def wsT (p : Nat) (s o : Int) : Lm.Tr := (if 0 = p then s else o, if 1 = p then s else o, if 2 = p then s else o)
theorem wsL_eq (p : Nat) (s o : Int) : wsL p s o = [(wsT p s o).1, (wsT p s o).2.1, (wsT p s o).2.2] := rfl
def grpP (p : Nat) (s t : List Int) : List Lm.Tr := (List.zip s t).map fun x => wsT p x.1 x.2
theorem grpP_0 (s t : List Int) : grpP 0 s t = Lm.grp0 s t := rfl
theorem grpP_1 (s t : List Int) : grpP 1 s t = Lm.grp1 s t := rfl
theorem grpP_2 (s t : List Int) : grpP 2 s t = Lm.grp2 s t := rfl
theorem grpP_at {p : Nat} {s t : List Int} {j : Nat} {x o : Int} (h1 : s[j]? = some x) (h2 : t[j]? = some o) : (grpP p s t).take (j + 1) = (grpP p s t).take j ++ [wsT p x o] := by
  have e : (grpP p s t)[j]? = some (wsT p x o) := by
    unfold grpP
    rw [List.getElem?_map, zip_at h1 h2]
    rfl
  rw [List.take_add_one, e]
  rfl
theorem grpP_len {p : Nat} {s t : List Int} (h : t.length ≤ s.length) : (grpP p s t).length = t.length := by
  unfold grpP
  rw [List.length_map, Lm.zip_len s t h]
theorem lft_at {x y z : List Int} {j : Nat} {u v w : Int} (h1 : x[j]? = some u) (h2 : y[j]? = some v) (h3 : z[j]? = some w) : (Lm.lft x y z).take (j + 1) = (Lm.lft x y z).take j ++ [(u, v, w)] := by
  have e : (Lm.lft x y z)[j]? = some (u, v, w) := by
    unfold Lm.lft
    exact zip_at h1 (zip_at h2 h3)
  rw [List.take_add_one, e]
  rfl
def pl (f : Int → Int → Int → Int) (a b c : List Int) (k : Nat) : Nat → List Int
  | 0 => Lm.rp (g3 f a b c) k
  | 1 => Lm.rp (g3 f b a c) k
  | _ => Lm.rp (g3 f c a b) k
theorem A3.pick {f : Int → Int → Int → Int} {x y z : V} {a b c : List Int} {k : Nat} {n : Int} {H : Hp} (A : A3 x y z a b c k n H) {i : Nat} (hi : i < 3) :
    ∃ u v s a' b' c', Pick i x y z u v s ∧ TI a' u H ∧ TI b' v H ∧ TI c' s H ∧ Shares a' k ∧ Shares b' k ∧ Shares c' k ∧ pl f a b c k i = Lm.rp (g3 f a' b' c') k := by
  have sa := A.na.shares A.n20
  have sb := A.nb.shares A.n20
  have sc := A.nc.shares A.n20
  match i, hi with
  | 0, _ => exact ⟨x, y, z, a, b, c, .inl ⟨rfl, rfl, rfl, rfl⟩, A.ha, A.hb, A.hc, sa, sb, sc, rfl⟩
  | 1, _ => exact ⟨y, x, z, b, a, c, .inr (.inl ⟨rfl, rfl, rfl, rfl⟩), A.hb, A.ha, A.hc, sb, sa, sc, rfl⟩
  | 2, _ => exact ⟨z, x, y, c, a, b, .inr (.inr ⟨rfl, rfl, rfl, rfl⟩), A.hc, A.ha, A.hb, sc, sa, sb, rfl⟩
/-- a list of ints, not among E -/
def LIx (E : Addr → Prop) (ns : List Int) (v : V) (H : Hp) : Prop := ∃ p, v = .ref p ∧ ¬ E p ∧ H p = some (.lst (ns.map V.int))
theorem exc_zero {k : Nat} {a b c : List Int} {n : Int} (h : (medL k a b c).sum ≤ n) : exc k a b c n = 0 := by
  unfold exc Lm.pos
  rw [if_neg (by omega)]
section
variable {H0 H : Hp} {tr tw sg p : Addr} {T : List Lm.Tr} {t0 t1 t2 s0 s1 s2 : List Int} {tf sf : Nat → List Int}
theorem DS.tw_at (h : DS H0 H tr tw sg T (tf 0) (tf 1) (tf 2) s0 s1 s2) {i : Nat} (hi : i < 3) : ∃ ps p, H tw = some (.lst ps) ∧ ps[i]? = some (.ref p) ∧ In3 H tr tw sg p (tf i) := by
  obtain ⟨p0, p1, p2, h3, h4, h5, h6⟩ := h.tws
  match i, hi with
  | 0, _ => exact ⟨_, _, h3, rfl, h4⟩
  | 1, _ => exact ⟨_, _, h3, rfl, h5⟩
  | 2, _ => exact ⟨_, _, h3, rfl, h6⟩
theorem DS.sg_at (h : DS H0 H tr tw sg T t0 t1 t2 (sf 0) (sf 1) (sf 2)) {i : Nat} (hi : i < 3) : ∃ ps p, H sg = some (.lst ps) ∧ ps[i]? = some (.ref p) ∧ In3 H tr tw sg p (sf i) := by
  obtain ⟨p0, p1, p2, h3, h4, h5, h6⟩ := h.sgs
  match i, hi with
  | 0, _ => exact ⟨_, _, h3, rfl, h4⟩
  | 1, _ => exact ⟨_, _, h3, rfl, h5⟩
  | 2, _ => exact ⟨_, _, h3, rfl, h6⟩
end
/-- what is dealt before the groups from a place on -/
def pre (T : List Lm.Tr) (s t : Nat → List Int) : Nat → List Lm.Tr
  | 0 => T
  | i + 1 => pre T s t i ++ grpP i (s i) (t i)
theorem map_at {ns : List Int} {j : Nat} {x : V} (h : (ns.map V.int)[j]? = some x) : ∃ z, ns[j]? = some z ∧ x = .int z := by
  rw [List.getElem?_map] at h
  obtain ⟨z, hz, e⟩ := Option.map_eq_some_iff.mp h
  exact ⟨z, hz, e.symm⟩
theorem at_map {ns : List Int} {j : Nat} {z : Int} (h : ns[j]? = some z) : (ns.map V.int)[j]? = some (.int z) := by
  rw [List.getElem?_map, h]
  rfl
end LmW
/-! triples.py: dealt. -/
namespace LmW
open PySem PySem.Spec PyProof.Rows L2
section
variable {P : Program} {w : World} {K : PySem.W.Frag} {mg : Str → Option Value} {base : Heap}
abbrev dlT (k : Nat) (a b c : List Int) : List Lm.Tr := Lm.dl k (fun i => a.getD i 0) (fun i => b.getD i 0) (fun i => c.getD i 0)
def sp_dealt : Sp := fun vs H Q _ => ∃ (t : Addr) (x y z : V) (a b c : List Int) (k : Nat) (n : Int), vs = [.ref t] ∧ H t = some (.tup [x, y, z]) ∧ A3 x y z a b c k n H ∧ (medL k a b c).sum ≤ n ∧
  ∀ r H' us, Same H H' → H r = none → H' r = some (.lst us) → Each RT H' (dlT k a b c) us → Q (.ref r) H'
theorem ok_dealt (T : Txt K mg) : Ok P w base 6 T.dealt sp_dealt := by
  have nd := sc_dealt.nd
  refine T.dealt.F.ok sc_dealt (fun vs H Q E h => ?_) (fun cdv A outer s H vs Q E hr h => ?_)
  · obtain ⟨t, x, y, z, a, b, c, k, n, rfl, _⟩ := h
    rfl
  · obtain ⟨t, x, y, z, a, b, c, k, n, rfl, ht, A, hm, q⟩ := h
    refine ⟨_, (pss_cons (ps_setLc (i := 1) (own := [("variant", 10)]) (g := gName 10) (tt := tYes) rfl nd rfl rfl (sw_true rfl rfl rfl (by decide +kernel)) (pi_list (pe_call (ok_repeated T) (hr.mono (by decide)) rfl T.repeated.g T.repeated.F.kp T.repeated.B .nil pass0 (pa_cons (pe_lc (own := [("row", 9)]) (g := gName 9) (tt := tYes) rfl nd (LmR.pi_zipS (by rfl) T.n_zip (pv 0)) (blkOk_by (by kernel_rfl)) (fun _ _ _ _ _ => (pg_name (i := 9) nd rfl (by first | exact .inl rfl | exact .inr rfl))) (fun _ _ _ _ _ => pts_nil) (fun _ _ _ _ _ => (pe_callB (r := rMinT K) (LmR.cr_minT rfl) (by rfl) T.n_min (by decide +kernel) (pa_cons (pv 9) pa_nil)))) pa_nil))) (blkOk_by (by kernel_rfl)) (fun _ _ _ _ _ => (pg_name (i := 10) nd rfl (by first | exact .inl rfl | exact .inr rfl))) (fun _ _ _ _ _ => pts_nil) (fun _ _ _ _ _ => (pe_tup (pa_cons (pv 10) (pa_cons (pv 10) (pa_cons (pv 10) pa_nil))))))
      (pss_cons (ps_set (i := 2) nd rfl (by first | exact .inl rfl | exact .inr rfl) (pe_lc (own := [("place", 5)]) (g := gName 5) (tt := tYes) rfl nd (pi_range1 (by rfl) T.n_range (pa_cons pe_int pa_nil)) (blkOk_by (by kernel_rfl)) (fun _ _ _ _ _ => (pg_name (i := 5) nd rfl (by first | exact .inl rfl | exact .inr rfl))) (fun _ _ _ _ _ => pts_nil) (fun _ _ _ _ _ => (pe_call (ok_twice_at T) (hr.mono (by decide)) rfl T.twice_at.g T.twice_at.F.kp T.twice_at.B .nil pass0 (pa_cons (pv 0) (pa_cons (pv 5) pa_nil))))))
      (pss_cons (ps_set (i := 3) nd rfl (by first | exact .inl rfl | exact .inr rfl) (pe_lc (own := [("place", 5)]) (g := gName 5) (tt := tYes) rfl nd (pi_range1 (by rfl) T.n_range (pa_cons pe_int pa_nil)) (blkOk_by (by kernel_rfl)) (fun _ _ _ _ _ => (pg_name (i := 5) nd rfl (by first | exact .inl rfl | exact .inr rfl))) (fun _ _ _ _ _ => pts_nil) (fun _ _ _ _ _ => (pe_call (ok_single_at T) (hr.mono (by decide)) rfl T.single_at.g T.single_at.F.kp T.single_at.B .nil pass0 (pa_cons (pv 0) (pa_cons (pv 5) pa_nil))))))
      (pss_cons (ps_set (i := 4) nd rfl (by first | exact .inl rfl | exact .inr rfl) (pe_op op_sub (pe_callB (r := rLen K) call_len_seq (by rfl) T.n_len (by decide +kernel) (pa_cons (pe_ix (r := rIxL K) ix_list (pv 2) pe_int (fun _ _ => rfl)) pa_nil)) (pe_call (ok_extra T) (hr.mono (by decide)) rfl T.extra.g T.extra.F.kp T.extra.B .nil pass0 (pa_cons (pv 0) pa_nil))))
      (pss_cons (ps_asg (pe_op op_cat (pe_ix (r := rIxL K) ix_list (pv 3) pe_int (fun _ _ => rfl)) (pe_slice (r := rSlL K) sl_list (pe_ix (r := rIxL K) ix_list (pv 2) pe_int (fun _ _ => rfl)) (po_some (pv 4)) po_none)) (pg_sub (pv 3) pe_int set_list))
      (pss_cons (ps_asg (pe_op op_cat (pe_ix (r := rIxL K) ix_list (pv 3) pe_int (fun _ _ => rfl)) (pe_slice (r := rSlL K) sl_list (pe_ix (r := rIxL K) ix_list (pv 2) pe_int (fun _ _ => rfl)) (po_some (pv 4)) po_none)) (pg_sub (pv 3) pe_int set_list))
      (pss_cons (ps_asg (pe_slice (r := rSlL K) sl_list (pe_ix (r := rIxL K) ix_list (pv 2) pe_int (fun _ _ => rfl)) po_none (po_some (pv 4))) (pg_sub (pv 2) pe_int set_list))
      (pss_cons (ps_for PassesOwn.never rfl (pi_range1 (by rfl) T.n_range (pa_cons pe_int pa_nil)) (pg_name (i := 5) nd rfl (by first | exact .inl rfl | exact .inr rfl))
        (pss_one (ps_for PassesOwn.never rfl (pi_enum (by rfl) T.n_enumerate (pa_cons (pe_ix (r := rIxL K) ix_list (pv 2) (pv 5) (fun _ _ => rfl)) pa_nil)) (pg_tup rfl (pgs_cons (pg_name (i := 6) nd rfl (by first | exact .inl rfl | exact .inr rfl)) (pgs_cons (pg_name (i := 7) nd rfl (by first | exact .inl rfl | exact .inr rfl)) pgs_nil)))
          (pss_one (ps_expr (pe_bm PySem.F.plainAttrs_list PySem.F.slot_list_append PySem.F.type_list_append mt_append (pv 1) (pa_cons (pe_call (ok_with_single T) (hr.mono (by decide)) rfl T.with_single.g T.with_single.F.kp T.with_single.B .nil pass0 (pa_cons (pv 5) (pa_cons (pe_ix (r := rIxL K) ix_list (pe_ix (r := rIxL K) ix_list (pv 3) (pv 5) (fun _ _ => rfl)) (pv 6) (fun _ _ => rfl)) (pa_cons (pv 7) pa_nil)))) pa_nil)))))))
      (pss_cons (ps_setLc (i := 8) (own := [("place", 5)]) (g := gName 5) (tt := tYes) rfl nd rfl rfl (sw_true rfl rfl rfl (by decide +kernel)) (pi_range1 (by rfl) T.n_range (pa_cons pe_int pa_nil)) (blkOk_by (by kernel_rfl)) (fun _ _ _ _ _ => (pg_name (i := 5) nd rfl (by first | exact .inl rfl | exact .inr rfl))) (fun _ _ _ _ _ => pts_nil) (fun _ _ _ _ _ => (pe_slice (r := rSlL K) sl_list (pe_ix (r := rIxL K) ix_list (pv 3) (pv 5) (fun _ _ => rfl)) (po_some (pe_callB (r := rLen K) call_len_seq (by rfl) T.n_len (by decide +kernel) (pa_cons (pe_ix (r := rIxL K) ix_list (pv 2) (pv 5) (fun _ _ => rfl)) pa_nil))) po_none)))
      (pss_cons (ps_for PassesOwn.never rfl (pi_range1 (by rfl) T.n_range (pa_cons (pe_callB (r := rLen K) call_len_seq (by rfl) T.n_len (by decide +kernel) (pa_cons (pe_ix (r := rIxL K) ix_list (pv 8) pe_int (fun _ _ => rfl)) pa_nil)) pa_nil)) (pg_name (i := 6) nd rfl (by first | exact .inl rfl | exact .inr rfl))
        (pss_one (ps_expr (pe_bm PySem.F.plainAttrs_list PySem.F.slot_list_append PySem.F.type_list_append mt_append (pv 1) (pa_cons (pe_tup (pa_cons (pe_ix (r := rIxL K) ix_list (pe_ix (r := rIxL K) ix_list (pv 8) pe_int (fun _ _ => rfl)) (pv 6) (fun _ _ => rfl)) (pa_cons (pe_ix (r := rIxL K) ix_list (pe_ix (r := rIxL K) ix_list (pv 8) pe_int (fun _ _ => rfl)) (pv 6) (fun _ _ => rfl)) (pa_cons (pe_ix (r := rIxL K) ix_list (pe_ix (r := rIxL K) ix_list (pv 8) pe_int (fun _ _ => rfl)) (pv 6) (fun _ _ => rfl)) pa_nil)))) pa_nil)))))
      (pss_one (ps_ret (pv 1))))))))))))), ?_⟩
    have A0 := A
    obtain ⟨pa, rfl, qa⟩ := A.ha
    obtain ⟨pb, rfl, qb⟩ := A.hb
    obtain ⟨pc, rfl, qc⟩ := A.hc
    have la := A.na.1
    have lb := A.nb.1
    have lc' := A.nc.1
    have sa := A.na.shares A.n20
    have sb := A.nb.shares A.n20
    have sc := A.nc.shares A.n20
    have k5 := A.k5
    refine ⟨.ref t, rfl, t, _, rfl, SqT.of ht, pa, pb, pc, _, _, _, rfl, SqT.of qa, SqT.of qb, SqT.of qc, fun D0 hD0 => ?_⟩
    refine lc_vals (LmR.walk_zip3 (by simp [la, lb]) (by simp [la, lc'])) hD0 (fun H' e => ⟨SqT.of (e _ _ qa), SqT.of (e _ _ qb), SqT.of (e _ _ qc)⟩) zip_same (fun i => .int (g3 Lm.lo a b c i)) (by rw [List.length_map]; omega) (fun _ => rfl)
      (fun i v H1' H2' hi e y K1 k1 => ?_) fun H1 e1 hq1 => ?_
    · obtain ⟨T1, x1, x2, x3, rfl, nt, rfl, h1, h2, h3⟩ := y
      rw [at_int h1, at_int h2, at_int h3]
      refine ⟨.ref T1, rfl, T1, [a.getD i 0, b.getD i 0, c.getD i 0], rfl, SqT.of upd_same, by show 0 < 3; decide, fun m mm ml => ?_⟩
      have em := min3 mm ml
      subst em
      exact k1 _ (same_new nt)
    have hq1' : H1 D0 = some (.lst ((List.range k).map fun i => V.int (g3 Lm.lo a b c i))) := by
      rw [List.length_map, la] at hq1
      exact hq1
    have lz : ∀ i, i < k → 0 ≤ g3 Lm.lo a b c i ∧ g3 Lm.lo a b c i ≤ 20 := fun i _ => by
      have h1 := sa.at i
      have h2 := sb.at i
      have h3 := sc.at i
      simp only [g3, Lm.lo, Lm.pmin]
      omega
    refine ⟨D0, g3 Lm.lo a b c, k, rfl, hq1', k5, lz, fun r H2 e2 nr hr => ?_⟩
    refine ⟨r, rfl, ⟨_, SqL.of hr⟩, fun tr ntr => ?_⟩
    have lenL : (Lm.rp (g3 Lm.lo a b c) k).length ≤ 100 := Nat.le_trans (rp_small fun i hi => (lz i hi).2) (by omega)
    refine lc_same walk_list ntr (fun H' e => SqL.of (e _ _ hr)) yat_same (fun _ => true) (fun i v H => RT ((Lm.rp (g3 Lm.lo a b c) k).getD i 0, (Lm.rp (g3 Lm.lo a b c) k).getD i 0, (Lm.rp (g3 Lm.lo a b c) k).getD i 0) v H)
      (fun i v H H' hl kk r => TI.keep r kk (fun b e => e ▸ hl)) (by rw [List.length_map]; omega) (fun i v' H3 H4 hi e hl yl K1 K0 k1 k0 => ?_) fun H3 us e3 htr ey => ?_
    · obtain ⟨rfl, hx⟩ := yl
      have ex := at_int hx
      subst ex
      exact ⟨rfl, _, rfl, _, rfl, _, rfl, by show 3 ≤ sizeLine; decide, fun p np => k1 rfl _ _ (same_new np) ⟨p, rfl, upd_same⟩⟩
    have ey1 : Each RT H3 (Lm.same (Lm.loL k (fun i => a.getD i 0) (fun i => b.getD i 0) (fun i => c.getD i 0))) us := by
      rw [filter_all, List.length_map] at ey
      have z := Each.map (R := RT) (F := fun i => ((Lm.rp (g3 Lm.lo a b c) k).getD i 0, (Lm.rp (g3 Lm.lo a b c) k).getD i 0, (Lm.rp (g3 Lm.lo a b c) k).getD i 0)) ey
      rw [range_list 0 (fun v => (v, v, v))] at z
      exact z
    have e13 : Same H H3 := (e1.trans e2).trans e3
    have trH : H tr = none := (e1.trans e2).free ntr
    have A3' := A0.mono e13
    -- twice
    refine ⟨3, rfl, by decide, by decide, fun tw ntw => ?_⟩
    refine lc_same (walk_range (lo := 0) (n := 3)) ntw (fun _ _ => trivial) yfn_same (fun _ => true) (fun i v H => LIx (fun p => p = tr ∨ p = tw) (pl Lm.f2 a b c k i) v H)
      (fun i v H H' hl kk r => by
        obtain ⟨p, e, ne, hp⟩ := r
        exact ⟨p, e, ne, kk p _ (fun z => ne (.inr z)) hp⟩) (by decide) (fun i v' H4 H5 hi e hl yl K1 K0 k1 k0 => ?_) fun H4 us2 e4 htw ey2 => ?_
    · obtain ⟨rfl, e0⟩ := yl
      have e0 : v' = .int (i : Nat) := e0.trans (congrArg V.int (Int.zero_add _))
      subst e0
      obtain ⟨u, v, s, a', b', c', pk, h1, h2, h3, g1, g2, g3', epl⟩ := (A3'.mono e).pick (f := Lm.f2) hi
      refine ⟨rfl, .ref t, rfl, .int (i : Nat), rfl, t, _, _, _, u, v, s, i, a', b', c', k, rfl, e _ _ (e13 _ _ ht), pk, h1, h2, h3, g1, g2, g3', k5, fun r2 H6 e6 nr2 hr2 => ?_⟩
      refine k1 rfl _ _ e6 ⟨r2, rfl, fun z => ?_, by rw [epl]; exact hr2⟩
      rcases z with z | z
      · rw [z, e _ _ htr] at nr2
        cases nr2
      · obtain ⟨l, hl⟩ := hl
        rw [z, hl] at nr2
        cases nr2
    -- single
    have e14 := e13.trans e4
    have twH : H tw = none := e13.free ntw
    have A4 := A3'.mono e4
    refine ⟨3, rfl, by decide, by decide, fun sg nsg => ?_⟩
    refine lc_same (walk_range (lo := 0) (n := 3)) nsg (fun _ _ => trivial) yfn_same (fun _ => true) (fun i v H => LIx (fun p => (p = tr ∨ p = tw) ∨ p = sg) (pl Lm.f1 a b c k i) v H)
      (fun i v H H' hl kk r => by
        obtain ⟨p, e, ne, hp⟩ := r
        exact ⟨p, e, ne, kk p _ (fun z => ne (.inr z)) hp⟩) (by decide) (fun i v' H5 H6 hi e hl yl K1 K0 k1 k0 => ?_) fun H5 us3 e5 hsg ey3 => ?_
    · obtain ⟨rfl, e0⟩ := yl
      have e0 : v' = .int (i : Nat) := e0.trans (congrArg V.int (Int.zero_add _))
      subst e0
      obtain ⟨u, v, s, a', b', c', pk, h1, h2, h3, g1, g2, g3', epl⟩ := (A4.mono e).pick (f := Lm.f1) hi
      refine ⟨rfl, .ref t, rfl, .int (i : Nat), rfl, t, _, _, _, u, v, s, i, a', b', c', k, rfl, e _ _ (e14 _ _ ht), pk, h1, h2, h3, g1, g2, g3', k5, fun r2 H6 e6 nr2 hr2 => ?_⟩
      refine k1 rfl _ _ e6 ⟨r2, rfl, fun z => ?_, by rw [epl]; exact hr2⟩
      rcases z with (z | z) | z
      · rw [z, e _ _ (e4 _ _ htr)] at nr2
        cases nr2
      · rw [z, e _ _ htw] at nr2
        cases nr2
      · obtain ⟨l, hl⟩ := hl
        rw [z, hl] at nr2
        cases nr2
    have e15 := e14.trans e5
    have sgH : H sg = none := e14.free nsg
    have A5 := A4.mono e5
    -- what stands
    have ds : DS H H5 tr tw sg (Lm.same (Lm.loL k (fun i => a.getD i 0) (fun i => b.getD i 0) (fun i => c.getD i 0))) (pl Lm.f2 a b c k 0) (pl Lm.f2 a b c k 1) (pl Lm.f2 a b c k 2) (pl Lm.f1 a b c k 0) (pl Lm.f1 a b c k 1) (pl Lm.f1 a b c k 2) := by
      have d12 : tr ≠ tw := fun z => by rw [← z, htr] at ntw; cases ntw
      have d13 : tr ≠ sg := fun z => by rw [← z, e4 _ _ htr] at nsg; cases nsg
      have d23 : tw ≠ sg := fun z => by rw [← z, htw] at nsg; cases nsg
      refine ⟨e15, trH, twH, sgH, d12, d13, d23, ⟨us, e5 _ _ (e4 _ _ htr), ey1.mono fun _ _ r => (r.mono e4).mono e5⟩, ?_, ?_⟩
      · match us2, ey2, htw with
        | [_, _, _], .cons ⟨p0, rfl, m0, h0⟩ (.cons ⟨p1, rfl, m1, h1⟩ (.cons ⟨p2, rfl, m2, h2⟩ .nil)), htw =>
          have one : ∀ {p : Addr} {l : List Int}, ¬ (p = tr ∨ p = tw) → H4 p = some (.lst (l.map V.int)) → In3 H5 tr tw sg p l := fun {p l} m h =>
            ⟨e5 _ _ h, fun z => m (.inl z), fun z => m (.inr z), fun z => by rw [z, nsg] at h; cases h⟩
          exact ⟨p0, p1, p2, e5 _ _ htw, one m0 h0, one m1 h1, one m2 h2⟩
      · match us3, ey3, hsg with
        | [_, _, _], .cons ⟨p0, rfl, m0, h0⟩ (.cons ⟨p1, rfl, m1, h1⟩ (.cons ⟨p2, rfl, m2, h2⟩ .nil)), hsg =>
          have one : ∀ {p : Addr} {l : List Int}, ¬ ((p = tr ∨ p = tw) ∨ p = sg) → H5 p = some (.lst (l.map V.int)) → In3 H5 tr tw sg p l := fun {p l} m h =>
            ⟨h, fun z => m (.inl (.inl z)), fun z => m (.inl (.inr z)), fun z => m (.inr z)⟩
          exact ⟨p0, p1, p2, hsg, one m0 h0, one m1 h1, one m2 h2⟩
    clear ey1 ey2 ey3 htr htw hsg
    -- kept = len(twice[1]) - extra(allocations)
    obtain ⟨p0, p1, p2, htw, w0, w1, w2⟩ := ds.tws
    obtain ⟨q0, q1, q2, hsg, v0, v1, v2⟩ := ds.sgs
    refine ⟨.ref tw, rfl, tw, [.ref p0, .ref p1, .ref p2], _, .ref p1, rfl, rfl, SqL.of htw, atI_nat (j := 1) rfl, p1, _, rfl, .inl (SqL.of w1.at_), .ref t, rfl, t, _, _, _, a, b, c, k, n, rfl, e15 _ _ ht, A5, fun H6 e6 => ?_⟩
    rw [exc_zero hm]
    refine ⟨_, _, rfl, rfl, ?_⟩
    have ek : ((((pl Lm.f2 a b c k 1).map V.int).length : Nat) : Int) - 0 = (((pl Lm.f2 a b c k 1).length : Nat) : Int) := by
      rw [List.length_map]
      omega
    have ds6 := ds.mono e6
    have lp : ∀ f i, (∀ x y z : Int, 0 ≤ x ∧ x ≤ 20 → 0 ≤ y ∧ y ≤ 20 → 0 ≤ z ∧ z ≤ 20 → 0 ≤ f x y z ∧ f x y z ≤ 20) → (pl f a b c k i).length ≤ 100 := fun f i hf => by
      match i with
      | 0 => exact Nat.le_trans (rp_small fun i _ => (hf _ _ _ (sa.at i) (sb.at i) (sc.at i)).2) (by omega)
      | 1 => exact Nat.le_trans (rp_small fun i _ => (hf _ _ _ (sb.at i) (sa.at i) (sc.at i)).2) (by omega)
      | i + 2 => exact Nat.le_trans (rp_small fun i _ => (hf _ _ _ (sc.at i) (sa.at i) (sb.at i)).2) (by omega)
    have ls : ∀ i, (pl Lm.f1 a b c k i).length ≤ 100 := fun i => lp Lm.f1 i fun _ _ _ => f1_small
    have lt : ∀ i, (pl Lm.f2 a b c k i).length ≤ 100 := fun i => lp Lm.f2 i fun _ _ _ => f2_small
    have cut : cutV ((pl Lm.f2 a b c k 1).map V.int) (some (((((pl Lm.f2 a b c k 1).map V.int).length : Nat) : Int) - 0)) none = [] := by
      rw [ek, cut_from]
      exact List.drop_of_length_le (by rw [List.length_map]; exact Nat.le_refl _)
    have cut' : cutV ((pl Lm.f2 a b c k 1).map V.int) none (some (((((pl Lm.f2 a b c k 1).map V.int).length : Nat) : Int) - 0)) = (pl Lm.f2 a b c k 1).map V.int := by
      rw [ek, cut_to]
      exact List.take_of_length_le (by rw [List.length_map]; exact Nat.le_refl _)
    have zcat : ∀ l : List Int, l.map V.int ++ cutV ((pl Lm.f2 a b c k 1).map V.int) (some (((((pl Lm.f2 a b c k 1).map V.int).length : Nat) : Int) - 0)) none = l.map V.int := fun l => by rw [cut, List.append_nil]
    have zlen : ∀ i, ((pl Lm.f1 a b c k i).map V.int).length + (cutV ((pl Lm.f2 a b c k 1).map V.int) (some (((((pl Lm.f2 a b c k 1).map V.int).length : Nat) : Int) - 0)) none).length ≤ sizeLine := fun i => by
      rw [cut, List.length_map]
      have h := ls i
      exact small (by show _ + 0 ≤ _; omega)
    -- single[0] = single[0] + twice[1][kept:]
    have htw6 := e6 _ _ htw
    have hsg6 := e6 _ _ hsg
    have w16 := w1.mono e6
    refine ⟨.ref sg, rfl, sg, [.ref q0, .ref q1, .ref q2], _, .ref q0, rfl, rfl, SqL.of hsg6, atI_nat (j := 0) rfl, .ref tw, rfl, tw, [.ref p0, .ref p1, .ref p2], _, .ref p1, rfl, rfl, SqL.of htw6, atI_nat (j := 1) rfl, _, rfl, _, rfl, p1, _, rfl, SqL.of w16.at_, fun np nnp => ?_⟩
    have sx := same_new (o := .lst (cutV ((pl Lm.f2 a b c k 1).map V.int) (some (((((pl Lm.f2 a b c k 1).map V.int).length : Nat) : Int) - 0)) none)) nnp
    refine ⟨q0, np, _, _, rfl, rfl, sx _ _ (v0.mono e6).at_, upd_same, zlen 0, fun r1 nr1 => ?_⟩
    have sy := same_new (o := .lst ((pl Lm.f1 a b c k 0).map V.int ++ cutV ((pl Lm.f2 a b c k 1).map V.int) (some (((((pl Lm.f2 a b c k 1).map V.int).length : Nat) : Int) - 0)) none)) nr1
    refine ⟨.ref sg, rfl, sg, [.ref q0, .ref q1, .ref q2], 0, 0, rfl, rfl, sy _ _ (sx _ _ hsg6), rfl, ?_⟩
    have f7 := (ds6.mono sx).fresh nr1 (zcat (pl Lm.f1 a b c k 0))
    have ds7 := (ds6.mono (sx.trans sy)).setS f7 (((v1.mono e6).mono sx).mono sy) (((v2.mono e6).mono sx).mono sy)
    -- single[2] = single[2] + twice[1][kept:]
    obtain ⟨p0, p1, p2, htw, w0, w1, w2⟩ := ds7.tws
    obtain ⟨q0, q1, q2, hsg, v0, v1, v2⟩ := ds7.sgs
    refine ⟨.ref sg, rfl, sg, [.ref q0, .ref q1, .ref q2], _, .ref q2, rfl, rfl, SqL.of hsg, atI_nat (j := 2) rfl, .ref tw, rfl, tw, [.ref p0, .ref p1, .ref p2], _, .ref p1, rfl, rfl, SqL.of htw, atI_nat (j := 1) rfl, _, rfl, _, rfl, p1, _, rfl, SqL.of w1.at_, fun np2 nnp2 => ?_⟩
    have sx2 := same_new (o := .lst (cutV ((pl Lm.f2 a b c k 1).map V.int) (some (((((pl Lm.f2 a b c k 1).map V.int).length : Nat) : Int) - 0)) none)) nnp2
    refine ⟨q2, np2, _, _, rfl, rfl, sx2 _ _ v2.at_, upd_same, zlen 2, fun r2 nr2 => ?_⟩
    have sy2 := same_new (o := .lst ((pl Lm.f1 a b c k 2).map V.int ++ cutV ((pl Lm.f2 a b c k 1).map V.int) (some (((((pl Lm.f2 a b c k 1).map V.int).length : Nat) : Int) - 0)) none)) nr2
    refine ⟨.ref sg, rfl, sg, [.ref q0, .ref q1, .ref q2], 2, 2, rfl, rfl, sy2 _ _ (sx2 _ _ hsg), rfl, ?_⟩
    have f8 := (ds7.mono sx2).fresh nr2 (zcat (pl Lm.f1 a b c k 2))
    have ds8 := (ds7.mono (sx2.trans sy2)).setS ((v0.mono sx2).mono sy2) ((v1.mono sx2).mono sy2) f8
    -- twice[1] = twice[1][:kept]
    obtain ⟨p0, p1, p2, htw, w0, w1, w2⟩ := ds8.tws
    refine ⟨.ref tw, rfl, tw, [.ref p0, .ref p1, .ref p2], _, .ref p1, rfl, rfl, SqL.of htw, atI_nat (j := 1) rfl, _, rfl, _, rfl, p1, _, rfl, SqL.of w1.at_, fun np3 nnp3 => ?_⟩
    have sx3 := same_new (o := .lst (cutV ((pl Lm.f2 a b c k 1).map V.int) none (some (((((pl Lm.f2 a b c k 1).map V.int).length : Nat) : Int) - 0)))) nnp3
    refine ⟨.ref tw, rfl, tw, [.ref p0, .ref p1, .ref p2], 1, 1, rfl, rfl, sx3 _ _ htw, rfl, ?_⟩
    have f9 := ds8.fresh nnp3 cut'
    have ds9 := (ds8.mono sx3).setT (w0.mono sx3) f9 (w2.mono sx3)
    -- for place in range(3)
    have md := Lm.dealt_ok (al_of A0.na A0.nb A0.nc) (medL_sum k a b c ▸ hm)
    have le : ∀ i, i < 3 → (pl Lm.f2 a b c k i).length ≤ (pl Lm.f1 a b c k i).length := fun i hi => by
      match i, hi with
      | 0, _ => exact md.1
      | 1, _ => exact md.2.1
      | 2, _ => exact md.2.2.1
    have lpre : ∀ i, (pre (Lm.same (Lm.loL k (fun i => a.getD i 0) (fun i => b.getD i 0) (fun i => c.getD i 0))) (pl Lm.f1 a b c k) (pl Lm.f2 a b c k) i).length ≤ 100 + 100 * i := fun i => by
      induction i with
      | zero =>
        show (Lm.same (Lm.rp (g3 Lm.lo a b c) k)).length ≤ _
        unfold Lm.same
        rw [List.length_map]
        omega
      | succ i ih =>
        show (pre _ _ _ i ++ grpP i _ _).length ≤ _
        rw [List.length_append]
        have h1 : (grpP i (pl Lm.f1 a b c k i) (pl Lm.f2 a b c k i)).length ≤ 100 := by
          unfold grpP
          rw [List.length_map, List.length_zip]
          have := lt i
          omega
        omega
    refine ⟨3, rfl, by decide, by decide, ?_⟩
    refine for_it (walk_range (lo := 0) (n := 3)) (fun i σ H' => ∃ s4 s5 s6 s7, σ = [some (.ref t), some (.ref tr), some (.ref tw), some (.ref sg), s4, s5, s6, s7, none, none, none] ∧
      DS H H' tr tw sg (pre (Lm.same (Lm.loL k (fun i => a.getD i 0) (fun i => b.getD i 0) (fun i => c.getD i 0))) (pl Lm.f1 a b c k) (pl Lm.f2 a b c k) i) (pl Lm.f2 a b c k 0) (pl Lm.f2 a b c k 1) (pl Lm.f2 a b c k 2) (pl Lm.f1 a b c k 0) (pl Lm.f1 a b c k 1) (pl Lm.f1 a b c k 2))
      ⟨_, _, _, _, rfl, ds9⟩ (fun _ _ _ _ _ => trivial) (fun i v σ H' H'' hi pv yl => ?_) fun σ H' pv => ?_
    · obtain ⟨s4, s5, s6, s7, rfl, dd⟩ := pv
      obtain ⟨rfl, e0⟩ := yl
      have e0 : v = .int (i : Nat) := e0.trans (congrArg V.int (Int.zero_add _))
      subst e0
      obtain ⟨ps, p, htw, hp, w⟩ := dd.tw_at hi
      refine ⟨.ref tw, rfl, .int (i : Nat), rfl, tw, ps, _, .ref p, rfl, rfl, SqL.of htw, atI_nat hp, p, _, rfl, SqL.of w.at_, ?_⟩
      refine for_it walk_enum (fun j σ H' => ∃ s6 s7, σ = [some (.ref t), some (.ref tr), some (.ref tw), some (.ref sg), s4, some (.int (i : Nat)), s6, s7, none, none, none] ∧ In3 H' tr tw sg p (pl Lm.f2 a b c k i) ∧
        DS H H' tr tw sg (pre (Lm.same (Lm.loL k (fun i => a.getD i 0) (fun i => b.getD i 0) (fun i => c.getD i 0))) (pl Lm.f1 a b c k) (pl Lm.f2 a b c k) i ++ (grpP i (pl Lm.f1 a b c k i) (pl Lm.f2 a b c k i)).take j) (pl Lm.f2 a b c k 0) (pl Lm.f2 a b c k 1) (pl Lm.f2 a b c k 2) (pl Lm.f1 a b c k 0) (pl Lm.f1 a b c k 1) (pl Lm.f1 a b c k 2))
        ⟨_, _, rfl, w, by rw [List.take_zero, List.append_nil]; exact dd⟩ (fun _ _ _ _ pv => by obtain ⟨_, _, _, w, _⟩ := pv; exact SqL.of w.at_) (fun j v σ H' H'' hj pv yl => ?_) fun σ H' pv => ?_
      · obtain ⟨s6, s7, rfl, w, dd⟩ := pv
        obtain ⟨tt, x1, x2, rfl, nt, rfl, h1, h2⟩ := yl
        have ei := Option.some.inj h1
        subst ei
        obtain ⟨o, ho, rfl⟩ := map_at h2
        have hj1 : j < (pl Lm.f1 a b c k i).length := by
          have := le i hi
          rw [List.length_map] at hj
          omega
        obtain ⟨so, hso⟩ : ∃ so, (pl Lm.f1 a b c k i)[j]? = some so := ⟨_, List.getElem?_eq_getElem hj1⟩
        have st := same_new (o := .tup [.int (j : Nat), .int o]) nt
        have dd1 := dd.mono st
        obtain ⟨vs1, htr1, _⟩ := dd1.trs
        obtain ⟨qs, qq, hsg1, hqq, vq⟩ := dd1.sg_at hi
        refine ⟨tt, [.int (j : Nat), .int o], rfl, SqT.of upd_same, rfl, _, [.int o], rfl, _, [], rfl, rfl, ?_⟩
        refine ⟨.ref tr, rfl, .inl ⟨rfl, _, SqL.of htr1⟩, .int (i : Nat), rfl, .ref sg, rfl, .int (i : Nat), rfl, sg, qs, _, .ref qq, rfl, rfl, SqL.of hsg1, atI_nat hqq, .int (j : Nat), rfl, qq, _, _, .int so, rfl, rfl, SqL.of vq.at_, atI_nat (at_map hso), .int o, rfl, i, so, o, rfl, fun v5 H5' e5' hv5 => ?_⟩
        have dd2 := dd1.mono e5'
        have htr2 := e5' _ _ htr1
        have rt : RT (wsT i so o) v5 H5' := hv5
        refine ⟨tr, vs1, v5, rfl, rfl, htr2, smallL ?_, _, _, rfl, ?_, ?_⟩
        · have h1 := (dd2.trs)
          obtain ⟨vs2, hv2, ev2⟩ := h1
          rw [htr2] at hv2
          cases hv2
          have h2 := ev2.len
          rw [List.length_append, List.length_take] at h2
          have h3 := lpre i
          have h4 := grpP_len (p := i) (le i hi)
          have h5 := lt i
          omega
        · exact (w.mono (st.trans e5')).write (.inl rfl)
        · rw [grpP_at hso ho, ← List.append_assoc]
          exact dd2.app htr2 rt
      · obtain ⟨s6, s7, rfl, w, dd⟩ := pv
        refine ⟨_, _, _, _, rfl, ?_⟩
        have ez : (grpP i (pl Lm.f1 a b c k i) (pl Lm.f2 a b c k i)).take ((pl Lm.f2 a b c k i).map V.int).length = grpP i (pl Lm.f1 a b c k i) (pl Lm.f2 a b c k i) := List.take_of_length_le (by rw [grpP_len (le i hi), List.length_map]; exact Nat.le_refl _)
        rw [ez] at dd
        exact dd
    · obtain ⟨s4, s5, s6, s7, rfl, dd⟩ := pv
      -- left = [..]
      refine ⟨3, rfl, by decide, by decide, fun lf nlf => ?_⟩
      have ntl : tr ≠ lf := fun z => by
        obtain ⟨vs1, h1, _⟩ := dd.trs
        rw [z, nlf] at h1
        cases h1
      refine lc_same (walk_range (lo := 0) (n := 3)) nlf (fun _ _ => trivial) yfn_same (fun _ => true) (fun i v H => LIx (fun p => p = tr ∨ p = lf) ((pl Lm.f1 a b c k i).drop (pl Lm.f2 a b c k i).length) v H)
        (fun i v H H' hl kk r => by
          obtain ⟨p, e, ne, hp⟩ := r
          exact ⟨p, e, ne, kk p _ (fun z => ne (.inr z)) hp⟩) (by decide) (fun i v' Hx Hy hi e hl yl K1 K0 k1 k0 => ?_) fun HL usl eL hlf eyl => ?_
      · obtain ⟨rfl, e0⟩ := yl
        have e0 : v' = .int (i : Nat) := e0.trans (congrArg V.int (Int.zero_add _))
        subst e0
        have dx := dd.mono e
        obtain ⟨ps, p, htw, hp, w⟩ := dx.tw_at hi
        obtain ⟨qs, qq, hsg, hqq, vq⟩ := dx.sg_at hi
        refine ⟨rfl, .ref sg, rfl, .int (i : Nat), rfl, sg, qs, _, .ref qq, rfl, rfl, SqL.of hsg, atI_nat hqq, .ref tw, rfl, .int (i : Nat), rfl, tw, ps, _, .ref p, rfl, rfl, SqL.of htw, atI_nat hp, p, _, rfl, .inl (SqL.of w.at_), _, rfl, qq, _, rfl, SqL.of vq.at_, fun np nnp => ?_⟩
        refine k1 rfl _ _ (same_new nnp) ⟨np, rfl, fun z => ?_, ?_⟩
        · obtain ⟨vs1, h1, _⟩ := dx.trs
          obtain ⟨l, hl⟩ := hl
          rcases z with z | z
          · rw [z, h1] at nnp
            cases nnp
          · rw [z, hl] at nnp
            cases nnp
        · rw [upd_same, List.length_map, cut_from, List.map_drop]
      -- the rest, row by row
      have ddL := dd.mono eL
      clear dd
      match usl, eyl, hlf with
      | [_, _, _], .cons ⟨l0, rfl, m0, h0⟩ (.cons ⟨l1, rfl, m1, h1⟩ (.cons ⟨l2, rfl, m2, h2⟩ .nil)), hlf =>
        refine ⟨.ref lf, rfl, lf, [.ref l0, .ref l1, .ref l2], _, .ref l0, rfl, rfl, SqL.of hlf, atI_nat (j := 0) rfl, l0, _, rfl, .inl (SqL.of h0), _, rfl, ?_, ?_, ?_⟩
        · omega
        · show ((((((pl Lm.f1 a b c k 0).drop (pl Lm.f2 a b c k 0).length).map V.int).length : Nat) : Int)) < 2 ^ 62
          have := ls 0
          rw [List.length_map, List.length_drop]
          omega
        have len1 : ((pl Lm.f1 a b c k 0).drop (pl Lm.f2 a b c k 0).length).length = ((pl Lm.f1 a b c k 1).drop (pl Lm.f2 a b c k 1).length).length := md.2.2.2.1
        have len2 : ((pl Lm.f1 a b c k 1).drop (pl Lm.f2 a b c k 1).length).length = ((pl Lm.f1 a b c k 2).drop (pl Lm.f2 a b c k 2).length).length := md.2.2.2.2.1
        refine for_it (walk_range (lo := 0)) (fun j σ H' => ∃ s6, σ = [some (.ref t), some (.ref tr), some (.ref tw), some (.ref sg), s4, s5, s6, s7, some (.ref lf), none, none] ∧ Keep (fun b => b = tr) HL H' ∧
          DS H H' tr tw sg (pre (Lm.same (Lm.loL k (fun i => a.getD i 0) (fun i => b.getD i 0) (fun i => c.getD i 0))) (pl Lm.f1 a b c k) (pl Lm.f2 a b c k) 3 ++ (Lm.lft ((pl Lm.f1 a b c k 0).drop (pl Lm.f2 a b c k 0).length) ((pl Lm.f1 a b c k 1).drop (pl Lm.f2 a b c k 1).length) ((pl Lm.f1 a b c k 2).drop (pl Lm.f2 a b c k 2).length)).take j) (pl Lm.f2 a b c k 0) (pl Lm.f2 a b c k 1) (pl Lm.f2 a b c k 2) (pl Lm.f1 a b c k 0) (pl Lm.f1 a b c k 1) (pl Lm.f1 a b c k 2))
          ⟨_, rfl, Keep.refl _ _, by rw [List.take_zero, List.append_nil]; exact ddL⟩ (fun _ _ _ _ _ => trivial) (fun j v σ H' H'' hj pv yl => ?_) fun σ H' pv => ?_
        · obtain ⟨s6, rfl, kp, dj⟩ := pv
          obtain ⟨rfl, e0⟩ := yl
          have e0 : v = .int (j : Nat) := e0.trans (congrArg V.int (Int.zero_add _))
          subst e0
          have hj : j < ((((((pl Lm.f1 a b c k 0).drop (pl Lm.f2 a b c k 0).length).map V.int).length : Nat) : Int)).toNat := hj
          have hj0 : j < ((pl Lm.f1 a b c k 0).drop (pl Lm.f2 a b c k 0).length).length := by
            rw [List.length_map] at hj
            omega
          obtain ⟨x0, hx0⟩ : ∃ x, ((pl Lm.f1 a b c k 0).drop (pl Lm.f2 a b c k 0).length)[j]? = some x := ⟨_, List.getElem?_eq_getElem hj0⟩
          obtain ⟨x1, hx1⟩ : ∃ x, ((pl Lm.f1 a b c k 1).drop (pl Lm.f2 a b c k 1).length)[j]? = some x := ⟨_, List.getElem?_eq_getElem (len1 ▸ hj0)⟩
          obtain ⟨x2, hx2⟩ : ∃ x, ((pl Lm.f1 a b c k 2).drop (pl Lm.f2 a b c k 2).length)[j]? = some x := ⟨_, List.getElem?_eq_getElem (len2 ▸ len1 ▸ hj0)⟩
          have klf := kp lf _ (fun z => ntl z.symm) hlf
          have kl0 := kp l0 _ (fun z => m0 (.inl z)) h0
          have kl1 := kp l1 _ (fun z => m1 (.inl z)) h1
          have kl2 := kp l2 _ (fun z => m2 (.inl z)) h2
          obtain ⟨vs1, htr1, ev1⟩ := dj.trs
          refine ⟨.ref tr, rfl, .inl ⟨rfl, _, SqL.of htr1⟩, .ref lf, rfl, lf, _, _, .ref l0, rfl, rfl, SqL.of klf, atI_nat (j := 0) rfl, .int (j : Nat), rfl, l0, _, _, .int x0, rfl, rfl, SqL.of kl0, atI_nat (at_map hx0),
            .ref lf, rfl, lf, _, _, .ref l1, rfl, rfl, SqL.of klf, atI_nat (j := 1) rfl, .int (j : Nat), rfl, l1, _, _, .int x1, rfl, rfl, SqL.of kl1, atI_nat (at_map hx1),
            .ref lf, rfl, lf, _, _, .ref l2, rfl, rfl, SqL.of klf, atI_nat (j := 2) rfl, .int (j : Nat), rfl, l2, _, _, .int x2, rfl, rfl, SqL.of kl2, atI_nat (at_map hx2), by show 3 ≤ sizeLine; decide, fun np nnp => ?_⟩
          have sn := same_new (o := .tup [.int x0, .int x1, .int x2]) nnp
          refine ⟨tr, vs1, .ref np, rfl, rfl, sn _ _ htr1, smallL ?_, _, rfl, ((kp.trans (Keep.of sn)).mut (.inr rfl)), ?_⟩
          · have h2 := ev1.len
            rw [List.length_append, List.length_take] at h2
            have h3 := lpre 3
            have h5 := ls 0
            have h6 : j < 100 := by
              rw [List.length_drop] at hj0
              omega
            omega
          · rw [lft_at hx0 hx1 hx2, ← List.append_assoc]
            exact (dj.mono sn).app (sn _ _ htr1) ⟨np, rfl, upd_same⟩
        · obtain ⟨s6, rfl, kp, dj⟩ := pv
          obtain ⟨vs1, htr1, ev1⟩ := dj.trs
          refine ⟨.ref tr, rfl, q tr H' vs1 dj.same dj.f1 htr1 ?_⟩
          have ezz : (Lm.lft ((pl Lm.f1 a b c k 0).drop (pl Lm.f2 a b c k 0).length) ((pl Lm.f1 a b c k 1).drop (pl Lm.f2 a b c k 1).length) ((pl Lm.f1 a b c k 2).drop (pl Lm.f2 a b c k 2).length)).take ((((((pl Lm.f1 a b c k 0).drop (pl Lm.f2 a b c k 0).length).map V.int).length : Nat) : Int)).toNat = Lm.lft ((pl Lm.f1 a b c k 0).drop (pl Lm.f2 a b c k 0).length) ((pl Lm.f1 a b c k 1).drop (pl Lm.f2 a b c k 1).length) ((pl Lm.f1 a b c k 2).drop (pl Lm.f2 a b c k 2).length) :=
            List.take_of_length_le (by rw [Lm.lft_len len1 len2, List.length_map]; omega)
          have ev1 : Each RT H' (pre (Lm.same (Lm.loL k (fun i => a.getD i 0) (fun i => b.getD i 0) (fun i => c.getD i 0))) (pl Lm.f1 a b c k) (pl Lm.f2 a b c k) 3 ++ (Lm.lft ((pl Lm.f1 a b c k 0).drop (pl Lm.f2 a b c k 0).length) ((pl Lm.f1 a b c k 1).drop (pl Lm.f2 a b c k 1).length) ((pl Lm.f1 a b c k 2).drop (pl Lm.f2 a b c k 2).length)).take ((((((pl Lm.f1 a b c k 0).drop (pl Lm.f2 a b c k 0).length).map V.int).length : Nat) : Int)).toNat) vs1 := ev1
          rw [ezz] at ev1
          have ee : dlT k a b c = pre (Lm.same (Lm.loL k (fun i => a.getD i 0) (fun i => b.getD i 0) (fun i => c.getD i 0))) (pl Lm.f1 a b c k) (pl Lm.f2 a b c k) 3 ++ Lm.lft ((pl Lm.f1 a b c k 0).drop (pl Lm.f2 a b c k 0).length) ((pl Lm.f1 a b c k 1).drop (pl Lm.f2 a b c k 1).length) ((pl Lm.f1 a b c k 2).drop (pl Lm.f2 a b c k 2).length) := by
            show _ = (((_ ++ grpP 0 _ _) ++ grpP 1 _ _) ++ grpP 2 _ _) ++ _
            rw [List.append_assoc, List.append_assoc, List.append_assoc]
            rfl
          rw [ee]
          exact ev1
end
end LmW
/-! triples.py: table_of_three, all_different. -/
namespace LmW
open PySem PySem.Spec PyProof.Rows L2
section
variable {P : Program} {w : World} {K : PySem.W.Frag} {mg : Str → Option Value} {base : Heap}
def at3 (i : Nat) (t : Lm.Tr) : Int := [t.1, t.2.1, t.2.2].getD i 0
def col (i : Nat) (T : List Lm.Tr) : List Int := T.map (at3 i)
theorem at3_at {t : Lm.Tr} {i : Nat} (hi : i < 3) : ([t.1, t.2.1, t.2.2].map V.int)[i]? = some (.int (at3 i t)) := by
  match i, hi with
  | 0, _ => rfl
  | 1, _ => rfl
  | 2, _ => rfl
def sp_table_of_three : Sp := fun vs H Q _ => ∃ (x y z : V) (a b c : List Int) (k : Nat) (n : Int), vs = [x, y, z] ∧ A3 x y z a b c k n H ∧ (n < (medL k a b c).sum → ∀ H', Same H H' → Q .non H') ∧
  ((medL k a b c).sum ≤ n → ∀ v H', Same H H' → TO TI [col 0 (dlT k a b c), col 1 (dlT k a b c), col 2 (dlT k a b c)] v H' → Q v H')
theorem exc_pos {k : Nat} {a b c : List Int} {n : Int} (h : n < (medL k a b c).sum) : (0 : Int) < exc k a b c n := by
  unfold exc Lm.pos
  rw [if_pos (by omega)]
  omega
theorem ok_table_of_three (T : Txt K mg) : Ok P w base 7 T.table_of_three sp_table_of_three := by
  have nd := sc_table_of_three.nd
  refine T.table_of_three.F.ok sc_table_of_three (fun vs H Q E h => ?_) (fun cdv A outer s H vs Q E hr h => ?_)
  · obtain ⟨x, y, z, a, b, c, k, n, rfl, _⟩ := h
    rfl
  · obtain ⟨x, y, z, a, b, c, k, n, rfl, A, q0, q1⟩ := h
    refine ⟨_, (pss_cons (ps_expr (pe_call (ok_check_three T) (hr.mono (by decide)) rfl T.check_three.g T.check_three.F.kp T.check_three.B .nil pass0 (pa_cons (pv 0) (pa_cons (pv 1) (pa_cons (pv 2) pa_nil)))))
      (pss_cons (ps_if (pt_cmpR op_gt (pe_call (ok_extra T) (hr.mono (by decide)) rfl T.extra.g T.extra.F.kp T.extra.B .nil pass0 (pa_cons (pe_tup (pa_cons (pv 0) (pa_cons (pv 1) (pa_cons (pv 2) pa_nil)))) pa_nil)) pe_int (nomark _)) (pss_one (ps_ret pe_non)) pss_nil)
      (pss_cons (ps_set (i := 3) nd rfl (by first | exact .inl rfl | exact .inr rfl) (pe_call (ok_dealt T) (hr.mono (by decide)) rfl T.dealt.g T.dealt.F.kp T.dealt.B .nil pass0 (pa_cons (pe_tup (pa_cons (pv 0) (pa_cons (pv 1) (pa_cons (pv 2) pa_nil)))) pa_nil)))
      (pss_one (ps_ret (pe_callTy (r := rTup K) call_tuple_of (by rfl) T.n_tuple (by decide +kernel) (pa_cons (pe_lc (own := [("place", 4)]) (g := gName 4) (tt := tYes) rfl nd (pi_range1 (by rfl) T.n_range (pa_cons pe_int pa_nil)) (blkOk_by (by kernel_rfl)) (fun _ _ _ _ _ => (pg_name (i := 4) nd rfl (by first | exact .inl rfl | exact .inr rfl))) (fun _ _ _ _ _ => pts_nil) (fun _ _ _ _ _ => (pe_callTy (r := rTup K) call_tuple_of (by rfl) T.n_tuple (by decide +kernel) (pa_cons (pe_lc (own := [("triple", 5)]) (g := gName 5) (tt := tYes) (wi := iList K (tVar 3)) rfl nd (pi_list (pv 3)) (blkOk_by (by kernel_rfl)) (fun _ _ _ _ _ => (pg_name (i := 5) nd rfl (by first | exact .inl rfl | exact .inr rfl))) (fun _ _ _ _ _ => pts_nil) (fun _ _ _ _ _ => (pe_ix (r := rIxT K) ix_tup (pv 5) (pv 4) (fun _ _ => rfl)))) pa_nil)))) pa_nil))))))), ?_⟩
    refine ⟨x, rfl, y, rfl, z, rfl, x, y, z, a, b, c, k, n, rfl, A, fun H1 e1 => ?_⟩
    refine ⟨x, rfl, y, rfl, z, rfl, by show 3 ≤ sizeLine; decide, fun t nt => ?_⟩
    have s1 := e1.trans (same_new (o := .tup [x, y, z]) nt)
    refine ⟨t, x, y, z, a, b, c, k, n, rfl, upd_same, A.mono s1, fun H2 e2 => ?_⟩
    have s2 := s1.trans e2
    by_cases hm : n < (medL k a b c).sum
    · refine ⟨_, _, rfl, rfl, true, congrArg V.bl (decide_eq_true (exc_pos hm)), iteT ?_⟩
      exact q0 hm H2 s2
    · have hm : (medL k a b c).sum ≤ n := by omega
      have z0 : ¬ (0 : Int) < exc k a b c n := by rw [exc_zero hm]; omega
      refine ⟨_, _, rfl, rfl, false, congrArg V.bl (decide_eq_false z0), iteF ?_⟩
      refine ⟨x, rfl, y, rfl, z, rfl, by show 3 ≤ sizeLine; decide, fun t2 nt2 => ?_⟩
      have s3 := s2.trans (same_new (o := .tup [x, y, z]) nt2)
      refine ⟨t2, x, y, z, a, b, c, k, n, rfl, upd_same, A.mono s3, hm, fun r H3 us e3 nr hr ey => ?_⟩
      have s4 := s3.trans e3
      have n20 := A.n20
      have k5 := A.k5
      have lus : us.length ≤ 20 := by
        have h1 := ey.len
        have md := Lm.dealt_ok (al_of A.na A.nb A.nc) (medL_sum k a b c ▸ hm)
        have h2 : ((dlT k a b c).length : Int) = n := md.2.2.2.2.2.1
        omega
      refine ⟨3, rfl, by decide, by decide, fun D hD => ?_⟩
      refine lc_same (walk_range (lo := 0) (n := 3)) hD (fun _ _ => trivial) yfn_same (fun _ => true) (fun i v H => TI (col i (dlT k a b c)) v H) (fun i v H H' hl kk r => TI.keep r kk (fun b e => e ▸ hl)) (by decide) (fun i v' H4 H5 hi e hl yl K1 K0 k1 k0 => ?_) fun H4 ws e4 hq4 ey4 => ?_
      · obtain ⟨rfl, e0⟩ := yl
        have e0 : v' = .int (i : Nat) := e0.trans (congrArg V.int (Int.zero_add _))
        subst e0
        have eyi := Each.mono (fun _ _ r => RT.mono r e) ey
        refine ⟨rfl, .ref r, rfl, r, rfl, ⟨_, SqL.of (e _ _ hr)⟩, fun D2 hD2 => ?_⟩
        refine lc_vals walk_list hD2 (fun H' e' => SqL.of (e' _ _ (e _ _ hr))) yat_same (fun j => .int (at3 i ((dlT k a b c).getD j (0, 0, 0)))) (by omega) (fun _ => rfl) (fun j u H6 H7 hj e' yl K2 k2 => ?_) fun H6 e6 hq6 => ?_
        · obtain ⟨rfl, hu⟩ := yl
          obtain ⟨tr, htr, p, rfl, hp⟩ := eyi.getV hu
          have k2' := k2 _ (Same.refl _)
          rw [List.getD_eq_getElem?_getD, htr] at k2'
          exact ⟨.ref p, rfl, .int (i : Nat), rfl, p, _, _, _, rfl, rfl, SqT.of (e' _ _ hp), atI_nat (at3_at hi), k2'⟩
        · refine ⟨D2, _, rfl, .inl ⟨SqL.of hq6, fun l nl => ?_⟩⟩
          refine k1 rfl _ _ (e6.trans (same_new nl)) ⟨l, rfl, ?_⟩
          rw [upd_same, ← ey.len]
          have e7 := range_list' (0, 0, 0) (fun t => V.int (at3 i t)) (dlT k a b c)
          rw [e7]
          unfold col
          rw [List.map_map]
          rfl
      · refine ⟨D, _, rfl, .inl ⟨SqL.of hq4, fun l nl => ?_⟩⟩
        have sl := same_new (o := .tup ws) nl
        refine q1 hm _ _ ((s4.trans e4).trans sl) ⟨l, ws, rfl, upd_same, ?_⟩
        rw [filter_all] at ey4
        have z := Each.map (R := TI) (F := fun i => col i (dlT k a b c)) ey4
        exact z.mono fun _ _ r => r.mono sl
def sp_all_different : Sp := fun vs H Q _ => ∃ (x y z : V) (a b c : List Int) (k : Nat) (n : Int), vs = [x, y, z] ∧ A3 x y z a b c k n H ∧ (n < (medL k a b c).sum → ∀ H', Same H H' → Q .non H') ∧
  ((medL k a b c).sum ≤ n → ∀ H', Same H H' → Q (.int (n - (medL k a b c).sum)) H')
theorem ok_all_different (T : Txt K mg) : Ok P w base 6 T.all_different sp_all_different := by
  have nd := sc_all_different.nd
  refine T.all_different.F.ok sc_all_different (fun vs H Q E h => ?_) (fun cdv A outer s H vs Q E hr h => ?_)
  · obtain ⟨x, y, z, a, b, c, k, n, rfl, _⟩ := h
    rfl
  · obtain ⟨x, y, z, a, b, c, k, n, rfl, A, q0, q1⟩ := h
    refine ⟨_, (pss_cons (ps_expr (pe_call (ok_check_three T) (hr.mono (by decide)) rfl T.check_three.g T.check_three.F.kp T.check_three.B .nil pass0 (pa_cons (pv 0) (pa_cons (pv 1) (pa_cons (pv 2) pa_nil)))))
      (pss_cons (ps_if (pt_cmpR op_gt (pe_call (ok_extra T) (hr.mono (by decide)) rfl T.extra.g T.extra.F.kp T.extra.B .nil pass0 (pa_cons (pe_tup (pa_cons (pv 0) (pa_cons (pv 1) (pa_cons (pv 2) pa_nil)))) pa_nil)) pe_int (nomark _)) (pss_one (ps_ret pe_non)) pss_nil)
      (pss_one (ps_ret (pe_op op_sub (pe_callB (r := rSumT K) (LmR.cr_sumT rfl) (by rfl) T.n_sum (by decide +kernel) (pa_cons (pv 0) pa_nil)) (pe_callB (r := rSumT K) (LmR.cr_sumT rfl) (by rfl) T.n_sum (by decide +kernel) (pa_cons (pe_call (ok_medians T) (hr.mono (by decide)) rfl T.medians.g T.medians.F.kp T.medians.B .nil pass0 (pa_cons (pv 0) (pa_cons (pv 1) (pa_cons (pv 2) pa_nil)))) pa_nil))))))), ?_⟩
    refine ⟨x, rfl, y, rfl, z, rfl, x, y, z, a, b, c, k, n, rfl, A, fun H1 e1 => ?_⟩
    refine ⟨x, rfl, y, rfl, z, rfl, by show 3 ≤ sizeLine; decide, fun t nt => ?_⟩
    have s1 := e1.trans (same_new (o := .tup [x, y, z]) nt)
    refine ⟨t, x, y, z, a, b, c, k, n, rfl, upd_same, A.mono s1, fun H2 e2 => ?_⟩
    have s2 := s1.trans e2
    by_cases hm : n < (medL k a b c).sum
    · refine ⟨_, _, rfl, rfl, true, congrArg V.bl (decide_eq_true (exc_pos hm)), iteT ?_⟩
      exact q0 hm H2 s2
    · have hm : (medL k a b c).sum ≤ n := by omega
      have z0 : ¬ (0 : Int) < exc k a b c n := by rw [exc_zero hm]; omega
      refine ⟨_, _, rfl, rfl, false, congrArg V.bl (decide_eq_false z0), iteF ?_⟩
      have B := A.mono s2
      obtain ⟨pa, rfl, qa⟩ := B.ha
      refine ⟨_, rfl, pa, a, rfl, SqT.of qa, _, rfl, y, rfl, z, rfl, _, y, z, a, b, c, k, n, rfl, B.ha, B.hb, B.hc, B.na, B.nb, B.nc, B.k1, B.k5, B.n20, fun v H3 e3 hv => ?_⟩
      obtain ⟨pm, rfl, qm⟩ := hv
      refine ⟨pm, _, rfl, SqT.of qm, _, _, rfl, rfl, ?_⟩
      have := q1 hm H3 (s2.trans e3)
      rw [← A.na.2.2] at this
      exact this
end
end LmW
/-! the law's helpers: the stream. -/
namespace LmW
open PySem PySem.Spec PyProof.Rows L2
theorem seq_join (J : L2.St → Hp → Prop) {a b : TS} {D : Ends} {σ : L2.St} {H : Hp} (hb : ∀ σ H, J σ H → b D σ H) (ha : (∀ σ H, J σ H → b D σ H) → a { D with nx := b D } σ H) : tSeq a b D σ H := ha hb
theorem name_join (i : Nat) (J : L2.St → Hp → Prop) {a b : TS} {D : Ends} {σ : L2.St} {H : Hp} {x : V} (hb : ∀ σ H, J σ H → b D σ H) (ha : (∀ σ H, J σ H → b D σ H) → a { D with nx := b D } (σ.set i (some x)) H) : gName i x σ H (tSeq a b D) := ha hb
section
variable {P : Program} {w : World} {K : PySem.W.Frag} {mg : Str → Option Value} {base : Heap}
/-- the stream: the script's copy, the cell, the place -/
def StrmAt (st sc : Addr) (ns : List Int) (c k : Int) (H : Hp) : Prop := H st = some (.lst [.ref sc, .int c, .int k]) ∧ sc ≠ st ∧ H sc = some (.lst (ns.map V.int)) ∧ 0 ≤ c ∧ 0 ≤ k
def Strm (st sc : Addr) (H : Hp) : Prop := ∃ ns c k, StrmAt st sc ns c k H
theorem StrmAt.mono {st sc : Addr} {ns : List Int} {c k : Int} {H H' : Hp} (h : StrmAt st sc ns c k H) (e : Same H H') : StrmAt st sc ns c k H' := ⟨e _ _ h.1, h.2.1, e _ _ h.2.2.1, h.2.2.2⟩
theorem Strm.mono {st sc : Addr} {H H' : Hp} (h : Strm st sc H) (e : Same H H') : Strm st sc H' := by
  obtain ⟨ns, c, k, g⟩ := h
  exact ⟨ns, c, k, g.mono e⟩
theorem Strm.lst {st sc : Addr} {H : Hp} (h : Strm st sc H) : ∃ l, H st = some (.lst l) := by
  obtain ⟨ns, c, k, g⟩ := h
  exact ⟨_, g.1⟩
theorem Strm.ne {st sc D : Addr} {H : Hp} (h : Strm st sc H) (n : H D = none) : D ≠ st ∧ D ≠ sc := by
  obtain ⟨ns, c, k, g⟩ := h
  refine ⟨fun z => ?_, fun z => ?_⟩
  · rw [z, g.1] at n
    cases n
  · rw [z, g.2.2.1] at n
    cases n
theorem Strm.write {st sc D : Addr} {H : Hp} {o : HO} (h : Strm st sc H) (n : D ≠ st ∧ D ≠ sc) : Strm st sc (upd H D o) := by
  obtain ⟨ns, c, k, g⟩ := h
  refine ⟨ns, c, k, ?_, g.2.1, ?_, g.2.2.2⟩
  · rw [upd_ne n.1.symm]
    exact g.1
  · rw [upd_ne n.2.symm]
    exact g.2.2.1
theorem StrmAt.set {st sc : Addr} {ns : List Int} {c k c' k' : Int} {H : Hp} (h : StrmAt st sc ns c k H) (hc : 0 ≤ c') (hk : 0 ≤ k') : StrmAt st sc ns c' k' (upd H st (.lst [.ref sc, .int c', .int k'])) := by
  refine ⟨upd_same, h.2.1, ?_, hc, hk⟩
  rw [upd_ne h.2.1]
  exact h.2.2.1
def sp__law_stream (K : PySem.W.Frag) : Sp := fun vs H Q _ => ∃ (l : Addr) (ns : List Int), vs = [.ref l] ∧ SqL K H l (ns.map V.int) ∧ ∀ st sc H', Same H H' → Strm st sc H' → H st = none → Q (.ref st) H'
theorem ok__law_stream (T : Txt K mg) : Ok P w base 1 T._law_stream (sp__law_stream K) := by
  have nd := sc__law_stream.nd
  refine T._law_stream.F.ok sc__law_stream (fun vs H Q E h => ?_) (fun cdv A outer s H vs Q E hr h => ?_)
  · obtain ⟨l, ns, rfl, _⟩ := h
    rfl
  · obtain ⟨l, ns, rfl, hl, q⟩ := h
    refine ⟨_, (pss_one (ps_ret (pe_lst (pa_cons (pe_callTy call_list_of (by rfl) T.n_list (by decide +kernel) (pa_cons (pv 0) pa_nil)) (pa_cons pe_int (pa_cons pe_int pa_nil)))))), ?_⟩
    refine ⟨_, rfl, l, _, rfl, .inl hl, fun sc nsc => ⟨by show 3 ≤ sizeLine; decide, fun st nst => ?_⟩⟩
    have s1 := same_new (o := .lst (ns.map V.int)) nsc
    have ne : sc ≠ st := fun z => by
      rw [← z, upd_same] at nst
      cases nst
    refine q st sc _ (s1.trans (same_new nst)) ⟨ns, 0, 0, upd_same, ne, ?_, by decide, by decide⟩ (s1.free nst)
    rw [upd_ne ne]
    exact upd_same
def sp__law_next : Sp := fun vs H Q _ => ∃ (st sc : Addr) (m : Int), vs = [.ref st, .int m] ∧ Strm st sc H ∧ 0 < m ∧ m < 1000 ∧ ∀ d H', 0 ≤ d → d < m → Keep (fun b => b = st) H H' → Strm st sc H' → Q (.int d) H'
theorem ok__law_next (T : Txt K mg) : Ok P w base 1 T._law_next sp__law_next := by
  have nd := sc__law_next.nd
  refine T._law_next.F.ok sc__law_next (fun vs H Q E h => ?_) (fun cdv A outer s H vs Q E hr h => ?_)
  · obtain ⟨st, sc, m, rfl, _⟩ := h
    rfl
  · obtain ⟨st, sc, m, rfl, hs, m0, m1, q⟩ := h
    refine ⟨_, (pss_cons (ps_if (pt_cmpR op_eq (pe_ix (r := rIxL K) ix_list (pv 0) pe_int (fun _ _ => rfl)) pe_int (nomark _)) (pss_cons (ps_set (i := 2) nd rfl (by first | exact .inl rfl | exact .inr rfl) (pe_ix (r := rIxL K) ix_list (pv 0) pe_int (fun _ _ => rfl)))
        (pss_cons (ps_set (i := 3) nd rfl (by first | exact .inl rfl | exact .inr rfl) (pe_op op_add pe_int (pv 2)))
        (pss_cons (ps_if (pt_cmpR op_lt (pv 2) (pe_callB (r := rLen K) call_len_seq (by rfl) T.n_len (by decide +kernel) (pa_cons (pe_ix (r := rIxL K) ix_list (pv 0) pe_int (fun _ _ => rfl)) pa_nil)) (nomark _)) (pss_one (ps_set (i := 3) nd rfl (by first | exact .inl rfl | exact .inr rfl) (pe_callB call_abs (by rfl) T.n_abs (by decide +kernel) (pa_cons (pe_ix (r := rIxL K) ix_list (pe_ix (r := rIxL K) ix_list (pv 0) pe_int (fun _ _ => rfl)) (pv 2) (fun _ _ => rfl)) pa_nil)))) pss_nil)
        (pss_cons (ps_if (pt_cmpR op_lt (pv 3) (pe_op op_pow pe_int pe_int) (nomark _)) (pss_cons (ps_set (i := 3) nd rfl (by first | exact .inl rfl | exact .inr rfl) (pe_op op_modN (pe_callTy call_int1 (by rfl) T.n_int (by decide +kernel) (pa_cons (pe_op op_add (pe_op op_add (pe_op op_mul (pv 3) pe_int) (pe_op op_mul (pv 2) pe_int)) pe_int) pa_nil)) pe_int))
          (pss_one (ps_set (i := 3) nd rfl (by first | exact .inl rfl | exact .inr rfl) (pe_op op_add (pe_op op_mul (pe_op op_modN (pe_callTy call_int1 (by rfl) T.n_int (by decide +kernel) (pa_cons (pe_op op_add (pe_op op_mul (pv 3) pe_int) pe_int) pa_nil)) pe_int) pe_int) (pv 3))))) pss_nil)
        (pss_cons (ps_asg (pv 3) (pg_sub (pv 0) pe_int set_list))
        (pss_one (ps_asg (pe_op op_add (pv 2) pe_int) (pg_sub (pv 0) pe_int set_list)))))))) pss_nil)
      (pss_cons (ps_set (i := 4) nd rfl (by first | exact .inl rfl | exact .inr rfl) (pe_op op_modN (pe_callTy call_int1 (by rfl) T.n_int (by decide +kernel) (pa_cons (pe_ix (r := rIxL K) ix_list (pv 0) pe_int (fun _ _ => rfl)) pa_nil)) (pv 1)))
      (pss_cons (ps_asg (pe_op op_fdivN (pe_ix (r := rIxL K) ix_list (pv 0) pe_int (fun _ _ => rfl)) (pv 1)) (pg_sub (pv 0) pe_int set_list))
      (pss_one (ps_ret (pv 4)))))), ?_⟩
    obtain ⟨ns, c, k, hs⟩ := hs
    have mne : m ≠ 0 := by omega
    refine seq_join (fun σ H1 => ∃ s2 s3 c' k', σ = [some (.ref st), some (.int m), s2, s3, none] ∧ StrmAt st sc ns c' k' H1 ∧ Keep (fun b => b = st) H H1) (fun σ H1 hj => ?_) fun tail => ?_
    · obtain ⟨s2, s3, c', k', rfl, g, kp⟩ := hj
      refine ⟨.ref st, rfl, st, _, _, .int c', rfl, rfl, SqL.of g.1, atI_nat (j := 1) rfl, .inl ⟨c', rfl, .int m, rfl, c', m, rfl, rfl, mne, ?_⟩⟩
      refine ⟨.ref st, rfl, st, _, _, .int c', rfl, rfl, SqL.of g.1, atI_nat (j := 1) rfl, .int m, rfl, c', m, rfl, rfl, ⟨mne, by omega⟩, ?_⟩
      refine ⟨.ref st, rfl, st, [.ref sc, .int c', .int k'], 1, 1, rfl, rfl, g.1, rfl, ?_⟩
      have d0 : 0 ≤ c'.fmod m := Int.fmod_nonneg_of_pos c' m0
      have d1 : c'.fmod m < m := Int.fmod_lt_of_pos c' m0
      have f0 : 0 ≤ c'.fdiv m := Int.fdiv_nonneg g.2.2.2.1 (by omega)
      exact ⟨_, rfl, q _ _ d0 d1 (kp.mut (.inr rfl)) ⟨ns, _, _, g.set f0 g.2.2.2.2⟩⟩
    · by_cases hc : c = 0
      · refine ⟨.ref st, rfl, st, _, _, .int c, rfl, rfl, SqL.of hs.1, atI_nat (j := 1) rfl, rfl, true, congrArg V.bl (decide_eq_true (congrArg V.int hc)), iteT ?_⟩
        refine ⟨.ref st, rfl, st, _, _, .int k, rfl, rfl, SqL.of hs.1, atI_nat (j := 2) rfl, .int k, rfl, _, _, rfl, rfl, ?_⟩
        dsimp only [gName]
        refine seq_join (fun σ H1 => ∃ cell : Int, 0 ≤ cell ∧ σ = [some (.ref st), some (.int m), some (.int k), some (.int cell), none] ∧ H1 = H) (fun σ H1 hj => ?_) fun tail2 => ?_
        · obtain ⟨cell, h0, rfl, rfl⟩ := hj
          refine seq_join (fun σ H2 => ∃ cell : Int, 0 ≤ cell ∧ σ = [some (.ref st), some (.int m), some (.int k), some (.int cell), none] ∧ H2 = H1) (fun σ H2 hj => ?_) fun tail3 => ?_
          · obtain ⟨cell, h0, rfl, rfl⟩ := hj
            refine ⟨.int cell, rfl, .ref st, rfl, st, [.ref sc, .int c, .int k], 1, 1, rfl, rfl, hs.1, rfl, ?_⟩
            refine ⟨.int k, rfl, k, 1, rfl, rfl, .ref st, rfl, st, [.ref sc, .int cell, .int k], 2, 2, rfl, rfl, upd_same, rfl, ?_⟩
            have k0 : 0 ≤ k := hs.2.2.2.2
            have g1 := hs.set h0 k0
            exact tail _ _ ⟨_, _, cell, k + 1, rfl, g1.set h0 (by omega), ((Keep.refl (fun b => b = st) _).mut (.inr rfl)).mut (.inr rfl)⟩
          · by_cases hl : cell < 10 ^ 18
            · refine ⟨.int cell, rfl, 10, 18, rfl, rfl, ⟨by decide, by decide, by decide⟩, cell, 10 ^ 18, rfl, rfl, true, congrArg V.bl (decide_eq_true hl), iteT ?_⟩
              refine ⟨.int cell, rfl, cell, 48271, rfl, rfl, .inr ⟨by decide, by decide⟩, .int k, rfl, k, 69621, rfl, rfl, .inr ⟨by decide, by decide⟩, _, _, rfl, rfl, _, 11, rfl, rfl, .inl ⟨_, rfl, _, 2147483647, rfl, rfl, (show (2147483647 : Int) ≠ 0 by decide), ?_⟩⟩
              have p1 := Int.fmod_nonneg_of_pos (cell * 48271 + k * 69621 + 11) (show (0 : Int) < 2147483647 by decide)
              generalize hc1 : (cell * 48271 + k * 69621 + 11).fmod 2147483647 = c1 at p1
              refine ⟨.int c1, by rw [← hc1]; rfl, c1, 16807, rfl, rfl, .inr ⟨by decide, by decide⟩, _, 13, rfl, rfl, .inl ⟨_, rfl, _, 2147483647, rfl, rfl, (show (2147483647 : Int) ≠ 0 by decide), _, 65537, rfl, rfl, .inr ⟨by decide, by decide⟩, .int c1, by rw [← hc1]; rfl, _, _, rfl, rfl, ?_⟩⟩
              have p2 := Int.fmod_nonneg_of_pos (c1 * 16807 + 13) (show (0 : Int) < 2147483647 by decide)
              exact tail3 _ _ ⟨(c1 * 16807 + 13).fmod 2147483647 * 65537 + c1, by omega, rfl, rfl⟩
            · refine ⟨.int cell, rfl, 10, 18, rfl, rfl, ⟨by decide, by decide, by decide⟩, cell, 10 ^ 18, rfl, rfl, false, congrArg V.bl (decide_eq_false hl), iteF ?_⟩
              exact tail3 _ _ ⟨cell, h0, rfl, rfl⟩
        · have k0 : 0 ≤ k := hs.2.2.2.2
          by_cases hl : k < (((ns.map V.int).length : Nat) : Int)
          · refine ⟨.int k, rfl, .ref st, rfl, st, _, _, .ref sc, rfl, rfl, SqL.of hs.1, atI_nat (j := 0) rfl, sc, _, rfl, .inl (SqL.of hs.2.2.1), k, _, rfl, rfl, true, congrArg V.bl (decide_eq_true hl), iteT ?_⟩
            obtain ⟨kn, rfl⟩ := Int.eq_ofNat_of_zero_le k0
            have hl' : kn < ns.length := by rw [List.length_map] at hl; omega
            obtain ⟨x, hx⟩ : ∃ x, ns[kn]? = some x := ⟨_, List.getElem?_eq_getElem hl'⟩
            refine ⟨.ref st, rfl, st, _, _, .ref sc, rfl, rfl, SqL.of hs.1, atI_nat (j := 0) rfl, .int (kn : Nat), rfl, sc, _, _, .int x, rfl, rfl, SqL.of hs.2.2.1, atI_nat (at_map hx), x, rfl, ?_⟩
            exact tail2 _ _ ⟨if x < 0 then -x else x, by split <;> omega, rfl, rfl⟩
          · refine ⟨.int k, rfl, .ref st, rfl, st, _, _, .ref sc, rfl, rfl, SqL.of hs.1, atI_nat (j := 0) rfl, sc, _, rfl, .inl (SqL.of hs.2.2.1), k, _, rfl, rfl, false, congrArg V.bl (decide_eq_false hl), iteF ?_⟩
            exact tail2 _ _ ⟨7 + k, by omega, rfl, rfl⟩
      · refine ⟨.ref st, rfl, st, _, _, .int c, rfl, rfl, SqL.of hs.1, atI_nat (j := 1) rfl, rfl, false, congrArg V.bl (decide_eq_false fun z => hc (V.int.inj z)), iteF ?_⟩
        exact tail _ _ ⟨_, _, c, k, rfl, hs, Keep.refl _ _⟩
end
end LmW
/-! the law's helpers: what is drawn. -/
namespace LmW
open PySem PySem.Spec PyProof.Rows L2
section
variable {P : Program} {w : World} {K : PySem.W.Frag} {mg : Str → Option Value} {base : Heap}
def sp__law_is_integer : Sp := fun vs H Q _ => ∃ i : Int, vs = [.int i] ∧ Q (.bl true) H
theorem ok__law_is_integer (T : Txt K mg) : Ok P w base 1 T._law_is_integer sp__law_is_integer := by
  have nd := sc__law_is_integer.nd
  refine T._law_is_integer.F.ok sc__law_is_integer (fun vs H Q E h => ?_) (fun cdv A outer s H vs Q E hr h => ?_)
  · obtain ⟨i, rfl, _⟩ := h
    rfl
  · obtain ⟨i, rfl, q⟩ := h
    refine ⟨_, (pss_one (ps_ret (pe_and (pe_callB (r := rIsi K) call_isi (by rfl) T.n_isinstance (by decide +kernel) (pa_cons (pv 0) (pa_cons (pe_bltn (v := .ty "int") (by rfl) T.n_int (by decide +kernel) rfl) pa_nil))) (pe_one (pe_not (pe_callB (r := rIsi K) call_isi (by rfl) T.n_isinstance (by decide +kernel) (pa_cons (pv 0) (pa_cons (pe_bltn (v := .ty "bool") (by rfl) T.n_bool (by decide +kernel) rfl) pa_nil)))))))), ?_⟩
    refine ⟨.int i, rfl, .int i, .ty "int", _, _, true, rfl, .ty "int", .base (.int i), kit_ty (by decide +kernel), true, rfl, iteT ?_⟩
    exact ⟨.int i, rfl, .int i, .ty "bool", _, _, false, rfl, .ty "bool", .base (.int i), kit_ty (by decide +kernel), false, rfl, q⟩
def sp__law_equal : Sp := fun vs H Q _ => ∃ i d : Int, vs = [.int i, .int d] ∧ Q (.bl (decide (i = d))) H
theorem ok__law_equal (T : Txt K mg) : Ok P w base 2 T._law_equal sp__law_equal := by
  have nd := sc__law_equal.nd
  refine T._law_equal.F.ok sc__law_equal (fun vs H Q E h => ?_) (fun cdv A outer s H vs Q E hr h => ?_)
  · obtain ⟨i, d, rfl, _⟩ := h
    rfl
  · obtain ⟨i, d, rfl, q⟩ := h
    refine ⟨_, (pss_cons (ps_if (pt_cmpR op_isN (pv 1) pe_non (nomark _)) (pss_one (ps_ret (pe_cmpR op_isN (pv 0) pe_non (nomark _)))) pss_nil)
      (pss_cons (ps_if (pt_val (pe_callB (r := rIsi K) call_isi (by rfl) T.n_isinstance (by decide +kernel) (pa_cons (pv 1) (pa_cons (pe_bltn (v := .ty "bool") (by rfl) T.n_bool (by decide +kernel) rfl) pa_nil)))) (pss_one (ps_ret (pe_and (pe_callB (r := rIsi K) call_isi (by rfl) T.n_isinstance (by decide +kernel) (pa_cons (pv 0) (pa_cons (pe_bltn (v := .ty "bool") (by rfl) T.n_bool (by decide +kernel) rfl) pa_nil))) (pe_one (pe_cmpR op_eq (pv 0) (pv 1) (nomark _)))))) pss_nil)
      (pss_cons (ps_if (pt_val (pe_callB (r := rIsi K) call_isi (by rfl) T.n_isinstance (by decide +kernel) (pa_cons (pv 1) (pa_cons (pe_bltn (v := .ty "int") (by rfl) T.n_int (by decide +kernel) rfl) pa_nil)))) (pss_one (ps_ret (pe_and (pe_call (ok__law_is_integer T) (hr.mono (by decide)) rfl T._law_is_integer.g T._law_is_integer.F.kp T._law_is_integer.B .nil pass0 (pa_cons (pv 0) pa_nil)) (pe_one (pe_cmpR op_eq (pv 0) (pv 1) (nomark _)))))) pss_nil)
      pss_never))), ?_⟩
    refine ⟨.int d, rfl, rfl, false, congrArg V.bl (decide_eq_false (by intro z; cases z)), iteF ?_⟩
    refine ⟨.int d, rfl, .int d, .ty "bool", _, _, false, rfl, .ty "bool", .base (.int d), kit_ty (by decide +kernel), false, rfl, iteF ?_⟩
    refine ⟨.int d, rfl, .int d, .ty "int", _, _, true, rfl, .ty "int", .base (.int d), kit_ty (by decide +kernel), true, rfl, iteT ?_⟩
    refine ⟨.int i, rfl, i, rfl, true, rfl, iteT ⟨.int i, rfl, .int d, rfl, rfl, ?_⟩⟩
    have e : decide (V.int i = V.int d) = decide (i = d) := by
      by_cases h : i = d
      · rw [decide_eq_true h, decide_eq_true (congrArg V.int h)]
      · rw [decide_eq_false h, decide_eq_false (fun z => h (V.int.inj z))]
    rw [e]
    exact q
/-- sizes -/
def Sz (k n : Nat) : Prop := 1 ≤ k ∧ k ≤ 5 ∧ n ≤ 4 ∧ k ^ n ≤ 81
def sp__law_sizes : Sp := fun vs H Q _ => ∃ st sc : Addr, vs = [.ref st] ∧ Strm st sc H ∧ ∀ (k n : Nat) v H', Keep (fun b => b = st) H H' → Strm st sc H' → TI [(k : Int), (n : Int)] v H' → Sz k n → Q v H'
theorem ok__law_sizes (T : Txt K mg) : Ok P w base 2 T._law_sizes sp__law_sizes := by
  have nd := sc__law_sizes.nd
  refine T._law_sizes.F.ok sc__law_sizes (fun vs H Q E h => ?_) (fun cdv A outer s H vs Q E hr h => ?_)
  · obtain ⟨st, sc, rfl, _⟩ := h
    rfl
  · obtain ⟨st, sc, rfl, hs, q⟩ := h
    refine ⟨_, (pss_cons (ps_asg (pe_ix (r := rIxL K) ix_list (pe_lst (pa_cons (pe_tup (pa_cons pe_int (pa_cons pe_int pa_nil))) (pa_cons (pe_tup (pa_cons pe_int (pa_cons pe_int pa_nil))) (pa_cons (pe_tup (pa_cons pe_int (pa_cons pe_int pa_nil))) (pa_cons (pe_tup (pa_cons pe_int (pa_cons pe_int pa_nil))) (pa_cons (pe_tup (pa_cons pe_int (pa_cons pe_int pa_nil))) (pa_cons (pe_tup (pa_cons pe_int (pa_cons pe_int pa_nil))) pa_nil))))))) (pe_call (ok__law_next T) (hr.mono (by decide)) rfl T._law_next.g T._law_next.F.kp T._law_next.B .nil pass0 (pa_cons (pv 0) (pa_cons pe_int pa_nil))) (fun _ _ => rfl)) (pg_tup rfl (pgs_cons (pg_name (i := 1) nd rfl (by first | exact .inl rfl | exact .inr rfl)) (pgs_cons (pg_name (i := 2) nd rfl (by first | exact .inl rfl | exact .inr rfl)) pgs_nil))))
      (pss_one (ps_ret (pe_tup (pa_cons (pv 1) (pa_cons (pe_call (ok__law_next T) (hr.mono (by decide)) rfl T._law_next.g T._law_next.F.kp T._law_next.B .nil pass0 (pa_cons (pv 0) (pa_cons (pe_op op_add (pv 2) pe_int) pa_nil))) pa_nil)))))), ?_⟩
    refine ⟨by show 2 ≤ sizeLine; decide, fun t1 n1 => ⟨by show 2 ≤ sizeLine; decide, fun t2 n2 => ⟨by show 2 ≤ sizeLine; decide, fun t3 n3 => ⟨by show 2 ≤ sizeLine; decide, fun t4 n4 => ⟨by show 2 ≤ sizeLine; decide, fun t5 n5 => ⟨by show 2 ≤ sizeLine; decide, fun t6 n6 => ⟨by show 6 ≤ sizeLine; decide, fun l nl => ?_⟩⟩⟩⟩⟩⟩⟩
    have s1 := same_new (o := .tup [.int 1, .int 4]) n1
    have s2 := same_new (o := .tup [.int 2, .int 4]) n2
    have s3 := same_new (o := .tup [.int 3, .int 4]) n3
    have s4 := same_new (o := .tup [.int 3, .int 3]) n4
    have s5 := same_new (o := .tup [.int 4, .int 3]) n5
    have s6 := same_new (o := .tup [.int 5, .int 2]) n6
    have s7 := same_new (o := .lst [.ref t1, .ref t2, .ref t3, .ref t4, .ref t5, .ref t6]) nl
    have s := (((((s1.trans s2).trans s3).trans s4).trans s5).trans s6).trans s7
    have hs2 := hs.mono s
    obtain ⟨l0, hl0⟩ := hs2.lst
    refine ⟨.ref st, rfl, st, sc, 6, rfl, hs2, by decide, by decide, fun d H2 d0 d1 kp hs3 => ?_⟩
    have nst : ∀ {t : Addr} {o : List V}, (upd (upd (upd (upd (upd (upd (upd H t1 (.tup [.int 1, .int 4])) t2 (.tup [.int 2, .int 4])) t3 (.tup [.int 3, .int 4])) t4 (.tup [.int 3, .int 3])) t5 (.tup [.int 4, .int 3])) t6 (.tup [.int 5, .int 2])) l (.lst [.ref t1, .ref t2, .ref t3, .ref t4, .ref t5, .ref t6])) t = some (.tup o) → H2 t = some (.tup o) := fun {t o} h =>
      kp t _ (fun z => by
        rw [z, hl0] at h
        cases h) h
    have hl2 : H2 l = some (.lst [.ref t1, .ref t2, .ref t3, .ref t4, .ref t5, .ref t6]) := kp l _ (fun z => by
      obtain ⟨l1, hl1⟩ := hs.lst
      have := (((((s1.trans s2).trans s3).trans s4).trans s5).trans s6) _ _ hl1
      rw [← z, nl] at this
      cases this) upd_same
    have pick : ∃ (t : Addr) (k m : Nat), atI [V.ref t1, .ref t2, .ref t3, .ref t4, .ref t5, .ref t6] d = some (.ref t) ∧ H2 t = some (.tup [.int (k : Int), .int (m : Int)]) ∧ Sz k m := by
      obtain ⟨dn, rfl⟩ := Int.eq_ofNat_of_zero_le d0
      match dn, d1 with
      | 0, _ => exact ⟨t1, 1, 4, rfl, nst (s7 _ _ (s6 _ _ (s5 _ _ (s4 _ _ (s3 _ _ (s2 _ _ upd_same)))))), by decide, by decide, by decide, by decide⟩
      | 1, _ => exact ⟨t2, 2, 4, rfl, nst (s7 _ _ (s6 _ _ (s5 _ _ (s4 _ _ (s3 _ _ upd_same))))), by decide, by decide, by decide, by decide⟩
      | 2, _ => exact ⟨t3, 3, 4, rfl, nst (s7 _ _ (s6 _ _ (s5 _ _ (s4 _ _ upd_same)))), by decide, by decide, by decide, by decide⟩
      | 3, _ => exact ⟨t4, 3, 3, rfl, nst (s7 _ _ (s6 _ _ (s5 _ _ upd_same))), by decide, by decide, by decide, by decide⟩
      | 4, _ => exact ⟨t5, 4, 3, rfl, nst (s7 _ _ (s6 _ _ upd_same)), by decide, by decide, by decide, by decide⟩
      | 5, _ => exact ⟨t6, 5, 2, rfl, nst (s7 _ _ upd_same), by decide, by decide, by decide, by decide⟩
      | n + 6, h => exact absurd h (by omega)
    obtain ⟨t, k, m, ht, hp, k1, k5, m4, km⟩ := pick
    refine ⟨l, _, d, .ref t, rfl, rfl, SqL.of hl2, ht, t, [.int (k : Int), .int (m : Int)], rfl, SqT.of hp, rfl, _, [.int (m : Int)], rfl, _, [], rfl, rfl, ?_⟩
    refine ⟨.int (k : Int), rfl, .ref st, rfl, .int (m : Int), rfl, _, _, rfl, rfl, st, sc, (m : Int) + 1, rfl, hs3, by omega, by omega, fun n H3 n0 nm kp3 hs4 => ⟨by show 2 ≤ sizeLine; decide, fun p np => ?_⟩⟩
    obtain ⟨nn, rfl⟩ := Int.eq_ofNat_of_zero_le n0
    have sp := same_new (o := .tup [.int (k : Int), .int (nn : Int)]) np
    have le : nn ≤ m := by omega
    refine q k nn (.ref p) _ (((Keep.of s).trans (kp.trans kp3)).trans (Keep.of sp)) (hs4.mono sp) ⟨p, rfl, upd_same⟩ ⟨k1, k5, by omega, Nat.le_trans (Nat.pow_le_pow_right k1 le) km⟩
end
end LmW
/-! the law's helpers: counts, drawn allocations. -/
namespace LmW
open PySem PySem.Spec PyProof.Rows L2
section
variable {P : Program} {w : World} {K : PySem.W.Frag} {mg : Str → Option Value} {base : Heap}
def cntL (k : Nat) (r : List Int) : List Int := (List.range k).map fun i : Nat => Lm.cnt r (i : Int)
def sp__law_count : Sp := fun vs H Q _ => ∃ (v : V) (r : List Int) (k : Nat), vs = [v, .int k] ∧ TI r v H ∧ r.length ≤ 100 ∧ k ≤ 100 ∧ ∀ v' H', Same H H' → TI (cntL k r) v' H' → Q v' H'
theorem ok__law_count (T : Txt K mg) : Ok P w base 1 T._law_count sp__law_count := by
  have nd := sc__law_count.nd
  refine T._law_count.F.ok sc__law_count (fun vs H Q E h => ?_) (fun cdv A outer s H vs Q E hr h => ?_)
  · obtain ⟨v, r, k, rfl, _⟩ := h
    rfl
  · obtain ⟨v, r, k, rfl, hv, hl, hk, q⟩ := h
    refine ⟨_, (pss_one (ps_ret (pe_callTy (r := rTup K) call_tuple_of (by rfl) T.n_tuple (by decide +kernel) (pa_cons (pe_lc (own := [("_law_variant", 2)]) (g := gName 2) (tt := tYes) rfl nd (pi_range1 (by rfl) T.n_range (pa_cons (pv 1) pa_nil)) (blkOk_by (by kernel_rfl)) (fun _ _ _ _ _ => (pg_name (i := 2) nd rfl (by first | exact .inl rfl | exact .inr rfl))) (fun _ _ _ _ _ => pts_nil) (fun _ _ _ _ _ => (pe_callB (r := rSum K) (cr_sum rfl) (by rfl) T.n_sum (by decide +kernel) (pa_cons (pe_lc (own := [("_law_one", 3)]) (g := gName 3) (tt := tYes) (wi := iTup K (tVar 0)) rfl nd (pi_tup (pv 0)) (blkOk_by (by kernel_rfl)) (fun _ _ _ _ _ => (pg_name (i := 3) nd rfl (by first | exact .inl rfl | exact .inr rfl))) (fun _ _ _ _ _ => pts_nil) (fun _ _ _ _ _ => (pe_callTy call_int1 (by rfl) T.n_int (by decide +kernel) (pa_cons (pe_cmpR op_eq (pv 3) (pv 2) (nomark _)) pa_nil)))) pa_nil)))) pa_nil)))), ?_⟩
    obtain ⟨pv, rfl, hp⟩ := hv
    refine ⟨.int (k : Int), rfl, (k : Int), rfl, by omega, by omega, fun D hD => ?_⟩
    refine lc_vals (walk_range (lo := 0)) hD (fun _ _ => trivial) yfn_same (fun i => .int (Lm.cnt r (i : Int))) (by omega) (fun _ => rfl) (fun i v' H1 H2 hi e yl K1 k1 => ?_) fun H1 e1 hq1 => ?_
    · obtain ⟨rfl, e0⟩ := yl
      have e0 : v' = .int (i : Nat) := e0.trans (congrArg V.int (Int.zero_add _))
      subst e0
      refine ⟨.ref pv, rfl, pv, rfl, ⟨_, SqT.of (e _ _ hp)⟩, fun D2 hD2 => ?_⟩
      refine lc_vals walk_tup hD2 (fun H' e' => SqT.of (e' _ _ (e _ _ hp))) yat_same (fun j => .int ((fun x : Int => if x = (i : Int) then (1 : Int) else 0) (r.getD j 0))) (by rw [List.length_map]; omega) (fun _ => rfl) (fun j x H3 H4 hj e' yl K2 k2 => ?_) fun H3 e3 hq3 => ?_
      · obtain ⟨rfl, hx⟩ := yl
        rw [at_int hx]
        refine ⟨_, rfl, .int (i : Int), rfl, rfl, .inr ⟨_, rfl, ?_⟩⟩
        have k2' := k2 _ (Same.refl _)
        by_cases h : r.getD j 0 = (i : Int)
        · have k2' : K2 (.int 1) H4 := by
            have z : (fun x : Int => if x = (i : Int) then (1 : Int) else 0) (r.getD j 0) = 1 := if_pos h
            rw [z] at k2'
            exact k2'
          rw [decide_eq_true (congrArg V.int h)]
          exact k2'
        · have k2' : K2 (.int 0) H4 := by
            have z : (fun x : Int => if x = (i : Int) then (1 : Int) else 0) (r.getD j 0) = 0 := if_neg h
            rw [z] at k2'
            exact k2'
          rw [decide_eq_false (fun z => h (V.int.inj z))]
          exact k2'
      · have er : (List.range (r.map V.int).length).map (fun j => V.int ((fun x : Int => if x = (i : Int) then (1 : Int) else 0) (r.getD j 0))) = (r.map (fun x : Int => if x = (i : Int) then (1 : Int) else 0)).map V.int := by
          rw [List.length_map, List.map_map]
          exact range_list' 0 (fun x => V.int (if x = (i : Int) then (1 : Int) else 0)) r
        rw [er] at hq3
        exact ⟨D2, _, rfl, SqL.of hq3, k1 _ e3⟩
    · refine ⟨D, _, rfl, .inl ⟨SqL.of hq1, fun l nl => ?_⟩⟩
      refine q _ _ (e1.trans (same_new nl)) ⟨l, rfl, ?_⟩
      rw [upd_same]
      unfold cntL
      rw [List.map_map]
      rfl
def sp__law_drawn : Sp := fun vs H Q _ => ∃ (st sc : Addr) (k n : Nat), vs = [.ref st, .int k, .int n] ∧ Strm st sc H ∧ 1 ≤ k ∧ k ≤ 5 ∧ n ≤ 4 ∧ ∀ (r : List Int) v H', Keep (fun b => b = st) H H' → Strm st sc H' → TI r v H' → r.length = n → (∀ x ∈ r, Lm.Rng k x) → Q v H'
/-- ints with a property, as values -/
theorem each_ints {p : Int → Prop} (H : Hp) : ∀ {xs : List Nat} {vs : List V}, Each (fun _ v _ => ∃ d : Int, v = .int d ∧ p d) H xs vs → ∃ r : List Int, vs = r.map V.int ∧ r.length = xs.length ∧ ∀ x ∈ r, p x
  | _, _, .nil => ⟨[], rfl, rfl, fun _ h => absurd h List.not_mem_nil⟩
  | _, _, .cons a t => by
    obtain ⟨d, rfl, hd⟩ := a
    obtain ⟨r, rfl, hl, hr⟩ := each_ints H t
    refine ⟨d :: r, rfl, by rw [List.length_cons, List.length_cons, hl], fun x hx => ?_⟩
    rcases List.mem_cons.mp hx with rfl | hx
    · exact hd
    · exact hr x hx
theorem ok__law_drawn (T : Txt K mg) : Ok P w base 2 T._law_drawn sp__law_drawn := by
  have nd := sc__law_drawn.nd
  refine T._law_drawn.F.ok sc__law_drawn (fun vs H Q E h => ?_) (fun cdv A outer s H vs Q E hr h => ?_)
  · obtain ⟨st, sc, k, n, rfl, _⟩ := h
    rfl
  · obtain ⟨st, sc, k, n, rfl, hs, k1, k5, n4, q⟩ := h
    refine ⟨_, (pss_one (ps_ret (pe_callTy (r := rTup K) call_tuple_of (by rfl) T.n_tuple (by decide +kernel) (pa_cons (pe_lc (own := [("_law_k", 3)]) (g := gName 3) (tt := tYes) rfl nd (pi_range1 (by rfl) T.n_range (pa_cons (pv 2) pa_nil)) (blkOk_by (by kernel_rfl)) (fun _ _ _ _ _ => (pg_name (i := 3) nd rfl (by first | exact .inl rfl | exact .inr rfl))) (fun _ _ _ _ _ => pts_nil) (fun _ _ _ _ _ => (pe_call (ok__law_next T) (hr.mono (by decide)) rfl T._law_next.g T._law_next.F.kp T._law_next.B .nil pass0 (pa_cons (pv 0) (pa_cons (pv 1) pa_nil))))) pa_nil)))), ?_⟩
    refine ⟨.int (n : Int), rfl, (n : Int), rfl, by omega, by omega, fun D hD => ?_⟩
    have nD := hs.ne hD
    refine lc_gen (g := gName 3) (tt := tYes) (walk_range (lo := 0)) (fun b => b = st) (Strm st sc) hD (fun _ _ _ => trivial) yfn_same (fun _ => true) (fun _ v _ => ∃ d : Int, v = .int d ∧ Lm.Rng k d) (fun _ _ _ _ _ _ _ r => r) (by omega) nD.1 hs
      (fun H' o ho h => h.write nD) (fun i v' H1 H2 hi kp iv hl yl K1 K0 k1' k0 => ?_) fun H1 ys kp iv hq ey => ?_
    · obtain ⟨rfl, e0⟩ := yl
      refine ⟨rfl, .ref st, rfl, .int (k : Int), rfl, st, sc, (k : Int), rfl, iv, by omega, by omega, fun d H3 d0 d1 kp3 hs3 => ?_⟩
      exact k1' rfl _ _ kp3 hs3 ⟨d, rfl, d0, d1⟩
    · rw [filter_all] at ey
      obtain ⟨r, rfl, hl, hr⟩ := each_ints H1 ey
      refine ⟨D, _, rfl, .inl ⟨SqL.of hq, fun l nl => ?_⟩⟩
      have sl := same_new (o := .tup (r.map V.int)) nl
      refine q r _ _ (kp.trans (Keep.of sl)) (iv.mono sl) ⟨l, rfl, upd_same⟩ ?_ hr
      rw [hl, List.length_range]
      omega
theorem cntL_len (k : Nat) (r : List Int) : (cntL k r).length = k := by
  unfold cntL
  rw [List.length_map, List.length_range]
theorem cntL_alloc {k n : Nat} {r : List Int} (hl : r.length = n) (hr : ∀ x ∈ r, Lm.Rng k x) : Alloc (cntL k r) k (n : Int) := by
  refine ⟨cntL_len k r, fun x hx => ?_, ?_⟩
  · unfold cntL at hx
    obtain ⟨i, _, rfl⟩ := List.mem_map.mp hx
    exact Lm.cnt_nonneg r _
  · have h := Lm.all_cnt (T := r) (p := fun x => x) (K := k) hr
    rw [List.map_id', hl] at h
    exact h
def sp__law_allocation : Sp := fun vs H Q _ => ∃ (st sc : Addr) (k n : Nat), vs = [.ref st, .int k, .int n] ∧ Strm st sc H ∧ 1 ≤ k ∧ k ≤ 5 ∧ n ≤ 4 ∧ ∀ (a : List Int) v H', Keep (fun b => b = st) H H' → Strm st sc H' → TI a v H' → Alloc a k (n : Int) → Q v H'
theorem ok__law_allocation (T : Txt K mg) : Ok P w base 3 T._law_allocation sp__law_allocation := by
  have nd := sc__law_allocation.nd
  refine T._law_allocation.F.ok sc__law_allocation (fun vs H Q E h => ?_) (fun cdv A outer s H vs Q E hr h => ?_)
  · obtain ⟨st, sc, k, n, rfl, _⟩ := h
    rfl
  · obtain ⟨st, sc, k, n, rfl, hs, k1, k5, n4, q⟩ := h
    refine ⟨_, (pss_one (ps_ret (pe_call (ok__law_count T) (hr.mono (by decide)) rfl T._law_count.g T._law_count.F.kp T._law_count.B .nil pass0 (pa_cons (pe_call (ok__law_drawn T) (hr.mono (by decide)) rfl T._law_drawn.g T._law_drawn.F.kp T._law_drawn.B .nil pass0 (pa_cons (pv 0) (pa_cons (pv 1) (pa_cons (pv 2) pa_nil)))) (pa_cons (pv 1) pa_nil))))), ?_⟩
    refine ⟨.ref st, rfl, .int (k : Int), rfl, .int (n : Int), rfl, st, sc, k, n, rfl, hs, k1, k5, n4, fun r v H1 kp hs1 hv hl hr => ?_⟩
    refine ⟨.int (k : Int), rfl, v, r, k, rfl, hv, by omega, by omega, fun v2 H2 e2 hv2 => ?_⟩
    exact q _ _ _ (kp.trans (Keep.of e2)) (hs1.mono e2) hv2 (cntL_alloc hl hr)
def sp__law_three : Sp := fun vs H Q _ => ∃ (st sc : Addr) (k n : Nat), vs = [.ref st, .int k, .int n] ∧ Strm st sc H ∧ 1 ≤ k ∧ k ≤ 5 ∧ n ≤ 4 ∧ ∀ (a b c : List Int) (l : Addr) (x y z : V) H', Keep (fun b => b = st) H H' → H' l = some (.lst [x, y, z]) →
  TI a x H' → TI b y H' → TI c z H' → Alloc a k (n : Int) → Alloc b k (n : Int) → Alloc c k (n : Int) → Q (.ref l) H'
theorem ok__law_three (T : Txt K mg) : Ok P w base 4 T._law_three sp__law_three := by
  have nd := sc__law_three.nd
  refine T._law_three.F.ok sc__law_three (fun vs H Q E h => ?_) (fun cdv A outer s H vs Q E hr h => ?_)
  · obtain ⟨st, sc, k, n, rfl, _⟩ := h
    rfl
  · obtain ⟨st, sc, k, n, rfl, hs, k1, k5, n4, q⟩ := h
    refine ⟨_, (pss_one (ps_ret (pe_lc (own := [("_law_k", 3)]) (g := gName 3) (tt := tYes) rfl nd (pi_range1 (by rfl) T.n_range (pa_cons pe_int pa_nil)) (blkOk_by (by kernel_rfl)) (fun _ _ _ _ _ => (pg_name (i := 3) nd rfl (by first | exact .inl rfl | exact .inr rfl))) (fun _ _ _ _ _ => pts_nil) (fun _ _ _ _ _ => (pe_call (ok__law_allocation T) (hr.mono (by decide)) rfl T._law_allocation.g T._law_allocation.F.kp T._law_allocation.B .nil pass0 (pa_cons (pv 0) (pa_cons (pv 1) (pa_cons (pv 2) pa_nil)))))))), ?_⟩
    refine ⟨3, rfl, by decide, by decide, fun D hD => ?_⟩
    have nD := hs.ne hD
    refine lc_gen (g := gName 3) (tt := tYes) (walk_range (lo := 0) (n := 3)) (fun b => b = st) (Strm st sc) hD (fun _ _ _ => trivial) yfn_same (fun _ => true) (fun _ v H => ∃ a : List Int, TI a v H ∧ Alloc a k (n : Int))
      (fun i v H H' hl iv kp r => by
        obtain ⟨a, ta, al⟩ := r
        refine ⟨a, ta.keep kp fun b hb => ?_, al⟩
        rcases hb with rfl | rfl
        · exact iv.lst
        · exact hl) (by decide) nD.1 hs
      (fun H' o ho h => h.write nD) (fun i v' H1 H2 hi kp iv hl yl K1 K0 k1' k0 => ?_) fun H1 ys kp iv hq ey => ?_
    · obtain ⟨rfl, e0⟩ := yl
      refine ⟨rfl, .ref st, rfl, .int (k : Int), rfl, .int (n : Int), rfl, st, sc, k, n, rfl, iv, k1, k5, n4, fun a v H3 kp3 hs3 ta al => ?_⟩
      exact k1' rfl _ _ kp3 hs3 ⟨a, ta, al⟩
    · match ys, ey, hq with
      | [x, y, z], .cons ⟨a, ta, al⟩ (.cons ⟨b, tb, bl⟩ (.cons ⟨c, tc, cl⟩ .nil)), hq =>
        exact q a b c D x y z H1 kp hq ta tb tc al bl cl
end
end LmW
/-! the law's helpers: all rows, the rows of an allocation. -/
namespace LmW
open PySem PySem.Spec PyProof.Rows L2
/-! ### plain -/
def ext (k : Nat) (r : List Int) : List (List Int) := (List.range k).map fun v : Nat => r ++ [(v : Int)]
def allR (k : Nat) : Nat → List (List Int)
  | 0 => [[]]
  | n + 1 => (allR k n).flatMap (ext k)
theorem ext_len (k : Nat) (r : List Int) : (ext k r).length = k := by
  unfold ext
  rw [List.length_map, List.length_range]
theorem flat_len (k : Nat) : ∀ l : List (List Int), (l.flatMap (ext k)).length = l.length * k
  | [] => by simp
  | r :: l => by
    rw [List.flatMap_cons, List.length_append, ext_len, flat_len k l, List.length_cons, Nat.succ_mul]
    omega
theorem allR_len (k : Nat) : ∀ n, (allR k n).length = k ^ n
  | 0 => rfl
  | n + 1 => by
    show ((allR k n).flatMap (ext k)).length = _
    rw [flat_len, allR_len k n, Nat.pow_succ]
theorem allR_row {k : Nat} : ∀ {n : Nat} {r : List Int}, r ∈ allR k n → r.length = n ∧ ∀ x ∈ r, Lm.Rng k x
  | 0, r, h => by
    have e : r = [] := by simpa [allR] using h
    subst e
    exact ⟨rfl, fun _ h => absurd h List.not_mem_nil⟩
  | n + 1, r, h => by
    obtain ⟨s, hs, hr⟩ := List.mem_flatMap.mp (show r ∈ (allR k n).flatMap (ext k) from h)
    unfold ext at hr
    obtain ⟨v, hv, rfl⟩ := List.mem_map.mp hr
    obtain ⟨h1, h2⟩ := allR_row hs
    refine ⟨by rw [List.length_append, h1]; rfl, fun x hx => ?_⟩
    rcases List.mem_append.mp hx with hx | hx
    · exact h2 x hx
    · have e : x = (v : Int) := by simpa using hx
      rw [e]
      have := List.mem_range.mp hv
      exact ⟨by omega, by omega⟩
theorem mem_allR {k : Nat} : ∀ {n : Nat} {r : List Int}, r.length = n → (∀ x ∈ r, Lm.Rng k x) → r ∈ allR k n
  | 0, r, h, _ => by
    rw [List.length_eq_zero_iff.mp h]
    simp [allR]
  | n + 1, r, h, hr => by
    have ne : r ≠ [] := fun z => by rw [z] at h; cases h
    have e := List.dropLast_concat_getLast ne
    have hm := hr _ (List.getLast_mem ne)
    refine List.mem_flatMap.mpr ⟨r.dropLast, mem_allR (by rw [List.length_dropLast, h]; rfl) fun x hx => hr x (List.dropLast_subset r hx), ?_⟩
    obtain ⟨v, hv⟩ := Int.eq_ofNat_of_zero_le hm.1
    have hm2 := hm.2
    rw [hv] at e hm2
    refine List.mem_map.mpr ⟨v, List.mem_range.mpr (by omega), e⟩
def ofL (k n : Nat) (a : List Int) : List (List Int) := (allR k n).filter fun r => decide (cntL k r = a)
theorem take_flat {α β : Type} (f : α → List β) {l : List α} {j : Nat} {r : α} (h : l[j]? = some r) : (l.take (j + 1)).flatMap f = (l.take j).flatMap f ++ f r := by
  rw [List.take_add_one, h, List.flatMap_append]
  simp
theorem filter_range {α : Type} (d : α) (p : α → Bool) (l : List α) : ((List.range l.length).filter fun i => p (l.getD i d)).map (fun i => l.getD i d) = l.filter p := by
  have e := range_list' d (fun x => x) l
  rw [List.map_id'] at e
  have e2 : l.filter p = ((List.range l.length).map (fun i => l.getD i d)).filter p := by rw [e]
  rw [e2, List.filter_map]
  rfl
/-! ### a list that grows -/
def Stb {α : Type} (R : α → V → Hp → Prop) : Prop := ∀ (x : α) (v : V) (H H' : Hp) (E : Addr → Prop), R x v H → Keep E H H' → (∀ b, E b → ∃ l, H b = some (.lst l)) → R x v H'
theorem stb_TI : Stb TI := fun _ _ _ _ _ h k hE => TI.keep h k hE
structure Grow {α : Type} (R : α → V → Hp → Prop) (H H' : Hp) (g : Addr) (X : List α) (ws : List V) : Prop where
  same : Same H H'
  fr : H g = none
  at_ : H' g = some (.lst ws)
  ey : Each R H' X ws
section
variable {α : Type} {R : α → V → Hp → Prop} {H H' H'' : Hp} {g : Addr} {X : List α} {ws : List V}
theorem Grow.mono (hR : Stb R) (h : Grow R H H' g X ws) (e : Same H' H'') : Grow R H H'' g X ws :=
  ⟨h.same.trans e, h.fr, e _ _ h.at_, h.ey.mono fun x v r => hR x v _ _ (fun _ => False) r (Keep.of e) fun _ z => z.elim⟩
theorem Grow.app (hR : Stb R) (h : Grow R H H' g X ws) {x : α} {v : V} (r : R x v H') : Grow R H (upd H' g (.lst (ws ++ [v]))) g (X ++ [x]) (ws ++ [v]) := by
  have k : Keep (fun b => b = g) H' (upd H' g (.lst (ws ++ [v]))) := (Keep.refl (fun b => b = g) H').mut (.inr rfl)
  have e : ∀ b, b = g → ∃ l, H' b = some (.lst l) := fun b z => ⟨ws, z ▸ h.at_⟩
  exact ⟨same_mut h.same h.fr, h.fr, upd_same, Each.app (h.ey.mono fun x v r => hR x v _ _ _ r k e) (.cons (hR x v _ _ _ r k e) .nil)⟩
end
section
variable {P : Program} {w : World} {K : PySem.W.Frag} {mg : Str → Option Value} {base : Heap}
def sp__law_all : Sp := fun vs H Q _ => ∃ k n : Nat, vs = [.int k, .int n] ∧ Sz k n ∧ ∀ l us H', Same H H' → H' l = some (.lst us) → Each TI H' (allR k n) us → Q (.ref l) H'
theorem ok__law_all (T : Txt K mg) : Ok P w base 1 T._law_all sp__law_all := by
  have nd := sc__law_all.nd
  refine T._law_all.F.ok sc__law_all (fun vs H Q E h => ?_) (fun cdv A outer s H vs Q E hr h => ?_)
  · obtain ⟨k, n, rfl, _⟩ := h
    rfl
  · obtain ⟨k, n, rfl, sz, q⟩ := h
    refine ⟨_, (pss_cons (ps_set (i := 2) nd rfl (by first | exact .inl rfl | exact .inr rfl) (pe_lst (pa_cons (pe_tup pa_nil) pa_nil)))
      (pss_cons (ps_for PassesOwn.never rfl (pi_range1 (by rfl) T.n_range (pa_cons (pv 1) pa_nil)) (pg_name (i := 3) nd rfl (by first | exact .inl rfl | exact .inr rfl))
        (pss_cons (ps_set (i := 4) nd rfl (by first | exact .inl rfl | exact .inr rfl) (pe_lst pa_nil))
        (pss_cons (ps_for PassesOwn.never rfl (pi_list (pv 2)) (pg_name (i := 5) nd rfl (by first | exact .inl rfl | exact .inr rfl))
          (pss_one (ps_for PassesOwn.never rfl (pi_range1 (by rfl) T.n_range (pa_cons (pv 0) pa_nil)) (pg_name (i := 6) nd rfl (by first | exact .inl rfl | exact .inr rfl))
            (pss_one (ps_expr (pe_bm PySem.F.plainAttrs_list PySem.F.slot_list_append PySem.F.type_list_append mt_append (pv 4) (pa_cons (pe_op (r := rCatA K) op_catA (pv 5) (pe_tup (pa_cons (pv 6) pa_nil))) pa_nil)))))))
        (pss_one (ps_set (i := 2) nd rfl (by first | exact .inl rfl | exact .inr rfl) (pv 4))))))
      (pss_one (ps_ret (pv 2))))), ?_⟩
    refine ⟨by show 0 ≤ sizeLine; decide, fun e ne => ⟨by show 1 ≤ sizeLine; decide, fun f nf => ?_⟩⟩
    have s1 := same_new (o := .tup []) ne
    have s2 := same_new (o := .lst [.ref e]) nf
    refine ⟨.int (n : Int), rfl, (n : Int), rfl, by omega, by have := sz.2.2.1; omega, ?_⟩
    refine for_it (walk_range (lo := 0)) (fun i σ H' => ∃ f s3 s4 s5 s6 us, σ = [some (.int (k : Int)), some (.int (n : Int)), some (.ref f), s3, s4, s5, s6] ∧ Same H H' ∧ H' f = some (.lst us) ∧ Each TI H' (allR k i) us)
      ⟨f, _, _, _, _, _, rfl, s1.trans s2, upd_same, .cons ⟨e, rfl, s2 _ _ upd_same⟩ .nil⟩ (fun _ _ _ _ _ => trivial) (fun i v σ H' H'' hi pv yl => ?_) fun σ H' pv => ?_
    · obtain ⟨f, s3, s4, s5, s6, us, rfl, ss, hf, ef⟩ := pv
      obtain ⟨rfl, _⟩ := yl
      have hin : i < n := by omega
      have lus : us.length = k ^ i := by rw [← ef.len, allR_len]
      have kin : k ^ i ≤ 81 := Nat.le_trans (Nat.pow_le_pow_right sz.1 (by omega)) sz.2.2.2
      refine ⟨by show 0 ≤ sizeLine; decide, fun g ng => ?_⟩
      have g0 : Grow TI _ _ g [] [] := ⟨same_new (o := .lst []) ng, ng, upd_same, .nil⟩
      refine ⟨.ref f, rfl, f, rfl, ⟨_, SqL.of (g0.same _ _ hf)⟩, ?_⟩
      refine for_it walk_list (fun j σ H2 => ∃ s3 s5 s6 ws, σ = [some (.int (k : Int)), some (.int (n : Int)), some (.ref f), s3, some (.ref g), s5, s6] ∧ Grow TI H'' H2 g (((allR k i).take j).flatMap (ext k)) ws)
        ⟨_, _, _, [], rfl, g0⟩ (fun j σ H2 _ pv => by obtain ⟨_, _, _, _, _, gr⟩ := pv; exact SqL.of (gr.same _ _ hf)) (fun j v σ H2 H3 hj pv yl => ?_) fun σ H2 pv => ?_
      · obtain ⟨s3, s5, s6, ws, rfl, gr⟩ := pv
        obtain ⟨rfl, hv⟩ := yl
        obtain ⟨r, hr, tr⟩ := ef.getV hv
        have rl := (allR_row (List.mem_of_getElem? hr)).1
        have n4 := sz.2.2.1
        have k5 := sz.2.1
        refine ⟨.int (k : Int), rfl, (k : Int), rfl, by omega, by omega, ?_⟩
        refine for_it (walk_range (lo := 0)) (fun m σ H4 => ∃ s6 ws, σ = [some (.int (k : Int)), some (.int (n : Int)), some (.ref f), s3, some (.ref g), some v, s6] ∧ Grow TI H'' H4 g (((allR k i).take j).flatMap (ext k) ++ (ext k r).take m) ws)
          ⟨_, ws, rfl, by rw [List.take_zero, List.append_nil]; exact gr⟩ (fun _ _ _ _ _ => trivial) (fun m v' σ H4 H5 hm pv yl => ?_) fun σ H4 pv => ?_
        · obtain ⟨s6, ws, rfl, gr⟩ := pv
          obtain ⟨rfl, e0⟩ := yl
          have e0 : v' = .int (m : Nat) := e0.trans (congrArg V.int (Int.zero_add _))
          subst e0
          have hmk : m < k := by omega
          have lws : ws.length ≤ 1000 := by
            have h1 := gr.ey.len
            have h2 := flat_len k ((allR k i).take j)
            have h3 : ((ext k r).take m).length ≤ k := by
              rw [List.length_take, ext_len]
              omega
            rw [List.length_append, h2] at h1
            have h4 : ((allR k i).take j).length ≤ 81 := by
              rw [List.length_take, allR_len]
              omega
            have h5 : ((allR k i).take j).length * k ≤ 81 * 5 := Nat.mul_le_mul h4 k5
            omega
          have hx : (ext k r)[m]? = some (r ++ [(m : Int)]) := by
            unfold ext
            rw [List.getElem?_map, List.getElem?_range hmk]
            rfl
          have fin : ∀ v6 H6, Same H5 H6 → TI (r ++ [(m : Int)]) v6 H6 → Grow TI H'' (upd H6 g (.lst (ws ++ [v6]))) g (((allR k i).take j).flatMap (ext k) ++ (ext k r).take (m + 1)) (ws ++ [v6]) := fun v6 H6 e6 h6 => by
            rw [List.take_add_one, hx, ← List.append_assoc]
            exact (gr.mono stb_TI e6).app stb_TI h6
          obtain ⟨pr, rfl, hp⟩ := (tr.mono gr.same)
          refine ⟨.ref g, rfl, .inl ⟨rfl, _, SqL.of gr.at_⟩, .ref pr, rfl, .int (m : Nat), rfl, by show 1 ≤ sizeLine; decide, fun t nt => ?_⟩
          have st := same_new (o := .tup [.int (m : Nat)]) nt
          refine ⟨pr, t, r.map V.int, [.int (m : Nat)], rfl, rfl, SqT.of (st _ _ hp), SqT.of upd_same, small (by rw [List.length_map, rl]; show _ + 1 ≤ _; omega), fun hz => ?_, fun _ hz => absurd hz (List.cons_ne_nil _ _), fun _ _ p np => ?_⟩
          · have er : r = [] := List.map_eq_nil_iff.mp hz
            refine ⟨g, ws, .ref t, rfl, rfl, st _ _ gr.at_, smallL (by omega), _, _, rfl, fin _ _ st ⟨t, rfl, ?_⟩⟩
            rw [er]
            exact upd_same
          · have sp := same_new (o := .tup (r.map V.int ++ [.int (m : Nat)])) np
            refine ⟨g, ws, .ref p, rfl, rfl, sp _ _ (st _ _ gr.at_), smallL (by omega), _, _, rfl, fin _ _ (st.trans sp) ⟨p, rfl, ?_⟩⟩
            rw [List.map_append]
            exact upd_same
        · obtain ⟨s6, ws, rfl, gr⟩ := pv
          refine ⟨_, _, _, ws, rfl, ?_⟩
          rw [take_flat (ext k) hr]
          have e7 : (ext k r).take ((k : Int)).toNat = ext k r := List.take_of_length_le (by rw [ext_len]; omega)
          have gr : Grow TI H'' H4 g (((allR k i).take j).flatMap (ext k) ++ (ext k r).take ((k : Int)).toNat) ws := gr
          rw [e7] at gr
          exact gr
      · obtain ⟨s3, s5, s6, ws, rfl, gr⟩ := pv
        refine ⟨.ref g, rfl, g, _, _, _, _, ws, rfl, ss.trans gr.same, gr.at_, ?_⟩
        have e8 : (allR k i).take us.length = allR k i := List.take_of_length_le (by rw [ef.len]; exact Nat.le_refl _)
        have ey := gr.ey
        rw [e8] at ey
        exact ey
    · obtain ⟨f, s3, s4, s5, s6, us, rfl, ss, hf, ef⟩ := pv
      exact ⟨.ref f, rfl, q f us H' ss hf ef⟩
def sp__law_of : Sp := fun vs H Q _ => ∃ (v : V) (a : List Int) (k n : Nat), vs = [v] ∧ TI a v H ∧ Alloc a k (n : Int) ∧ Sz k n ∧ ∀ l us H', Same H H' → H l = none → H' l = some (.lst us) → Each TI H' (ofL k n a) us → Q (.ref l) H'
theorem ok__law_of (T : Txt K mg) : Ok P w base 2 T._law_of sp__law_of := by
  have nd := sc__law_of.nd
  refine T._law_of.F.ok sc__law_of (fun vs H Q E h => ?_) (fun cdv A outer s H vs Q E hr h => ?_)
  · obtain ⟨v, a, k, n, rfl, _⟩ := h
    rfl
  · obtain ⟨v, a, k, n, rfl, hv, al, sz, q⟩ := h
    refine ⟨_, (pss_one (ps_ret (pe_lc (own := [("_law_row", 1)]) (g := gName 1) rfl nd (pi_list (pe_call (ok__law_all T) (hr.mono (by decide)) rfl T._law_all.g T._law_all.F.kp T._law_all.B .nil pass0 (pa_cons (pe_callB (r := rLen K) call_len_seq (by rfl) T.n_len (by decide +kernel) (pa_cons (pv 0) pa_nil)) (pa_cons (pe_callB (r := rSumT K) (LmR.cr_sumT rfl) (by rfl) T.n_sum (by decide +kernel) (pa_cons (pv 0) pa_nil)) pa_nil)))) (blkOk_by (by kernel_rfl)) (fun _ _ _ _ _ => (pg_name (i := 1) nd rfl (by first | exact .inl rfl | exact .inr rfl))) (fun _ _ _ _ _ => (pts_one (pt_cmpR (r := rEqD K) (op_eqD hr.units) (pe_call (ok__law_count T) (hr.mono (by decide)) rfl T._law_count.g T._law_count.F.kp T._law_count.B .nil pass0 (pa_cons (pv 1) (pa_cons (pe_callB (r := rLen K) call_len_seq (by rfl) T.n_len (by decide +kernel) (pa_cons (pv 0) pa_nil)) pa_nil))) (pv 0) (nomark _)))) (fun _ _ _ _ _ => (pv 1))))), ?_⟩
    obtain ⟨pa, rfl, hp⟩ := hv
    have k5 := sz.2.1
    have n4 := sz.2.2.1
    refine ⟨.ref pa, rfl, pa, _, rfl, .inr (SqT.of hp), .ref pa, rfl, pa, a, rfl, SqT.of hp, k, n, ?_, sz, fun f us H1 e1 hf ef => ?_⟩
    · rw [List.length_map, al.1, al.2.2]
      rfl
    have lus : us.length ≤ 81 := by rw [← ef.len, allR_len]; exact sz.2.2.2
    refine ⟨f, rfl, ⟨_, SqL.of hf⟩, fun D hD => ?_⟩
    refine lc_same walk_list hD (fun H' e => SqL.of (e _ _ hf)) yat_same (fun i => decide (cntL k ((allR k n).getD i []) = a)) (fun i v H => TI ((allR k n).getD i []) v H) (fun i v H H' hl kk r => TI.keep r kk (fun b e => e ▸ hl)) (by omega)
      (fun i x H2 H3 hi e hl yl K1 K0 k1 k0 => ?_) fun H2 ws e2 hq2 ey2 => ?_
    · obtain ⟨rfl, hx⟩ := yl
      obtain ⟨r, hr, tr⟩ := ef.getV hx
      have er : (allR k n).getD i [] = r := by rw [List.getD_eq_getElem?_getD, hr]; rfl
      rw [er] at k1 k0
      have rr := allR_row (List.mem_of_getElem? hr)
      refine ⟨rfl, x, rfl, .ref pa, rfl, pa, _, rfl, .inr (SqT.of (e _ _ (e1 _ _ hp))), x, r, k, ?_, tr.mono e, by omega, by omega, fun v' H4 e4 hv' => ?_⟩
      · rw [List.length_map, al.1]
        rfl
      refine ⟨.ref pa, rfl, _, _, dp_tup hv', dp_tup (((TI.mono ⟨pa, rfl, hp⟩ e1).mono e).mono e4), shaped_tup _, shaped_tup _, decide (cntL k r = a), ?_, ?_⟩
      · rw [eqv_tup]
      · by_cases h : cntL k r = a
        · rw [decide_eq_true h]
          exact iteT ⟨x, rfl, k1 (decide_eq_true h) _ _ e4 ((tr.mono e).mono e4)⟩
        · rw [decide_eq_false h]
          exact iteF (k0 (decide_eq_false h) _ e4)
    · refine q D ws H2 (e1.trans e2) (e1.free hD) hq2 ?_
      rw [← ef.len] at ey2
      have z := Each.map (R := TI) (F := fun i => (allR k n).getD i []) ey2
      rw [filter_range [] (fun r => decide (cntL k r = a)) (allR k n)] at z
      exact z
end
end LmW
/-! the law's helpers: churn, transfer, least, different, tables. -/
namespace LmW
open PySem PySem.Spec PyProof.Rows L2
def churn (r s : List Int) : Int := Lm.S r.length fun i => Lm.ne2 (r.getD i 0) (s.getD i 0)
def trans (a b : List Int) : Int := Lm.S a.length fun i => Lm.pos (a.getD i 0 - b.getD i 0)
def diff (r s t : List Int) : Int := Lm.S r.length fun i => Lm.ne3 (r.getD i 0) (s.getD i 0) (t.getD i 0)
theorem ne_int (x y : Int) : decide (V.int x = V.int y) = decide (x = y) := by
  by_cases h : x = y
  · rw [decide_eq_true h, decide_eq_true (congrArg V.int h)]
  · rw [decide_eq_false h, decide_eq_false (fun z => h (V.int.inj z))]
theorem getD_at {l : List Int} {i : Nat} (h : i < l.length) : (l.map V.int)[i]? = some (.int (l.getD i 0)) := by
  rw [List.getElem?_map, List.getD_eq_getElem?_getD, List.getElem?_eq_getElem h]
  rfl
theorem lst_S (n : Nat) (f : Nat → Int) : (List.range n).map (fun i => V.int (f i)) = ((List.range n).map f).map V.int := by
  rw [List.map_map]
  rfl
section
variable {P : Program} {w : World} {K : PySem.W.Frag} {mg : Str → Option Value} {base : Heap}
def sp__law_churn : Sp := fun vs H Q _ => ∃ (v u : V) (r s : List Int), vs = [v, u] ∧ TI r v H ∧ TI s u H ∧ r.length = s.length ∧ r.length ≤ 100 ∧ ∀ H', Same H H' → Q (.int (churn r s)) H'
theorem ok__law_churn (T : Txt K mg) : Ok P w base 1 T._law_churn sp__law_churn := by
  have nd := sc__law_churn.nd
  refine T._law_churn.F.ok sc__law_churn (fun vs H Q E h => ?_) (fun cdv A outer s H vs Q E hr h => ?_)
  · obtain ⟨v, u, r, s, rfl, _⟩ := h
    rfl
  · obtain ⟨v, u, r, s', rfl, ⟨pr, rfl, hp⟩, ⟨pu, rfl, hu⟩, hl, h100, q⟩ := h
    refine ⟨_, (pss_one (ps_ret (pe_callB (r := rSum K) (cr_sum rfl) (by rfl) T.n_sum (by decide +kernel) (pa_cons (pe_lc (own := [("_law_k", 2)]) (g := gName 2) (tt := tYes) rfl nd (pi_range1 (by rfl) T.n_range (pa_cons (pe_callB (r := rLen K) call_len_seq (by rfl) T.n_len (by decide +kernel) (pa_cons (pv 0) pa_nil)) pa_nil)) (blkOk_by (by kernel_rfl)) (fun _ _ _ _ _ => (pg_name (i := 2) nd rfl (by first | exact .inl rfl | exact .inr rfl))) (fun _ _ _ _ _ => pts_nil) (fun _ _ _ _ _ => (pe_callTy call_int1 (by rfl) T.n_int (by decide +kernel) (pa_cons (pe_cmpR op_ne (pe_ix (r := rIxT K) ix_tup (pv 0) (pv 2) (fun _ _ => rfl)) (pe_ix (r := rIxT K) ix_tup (pv 1) (pv 2) (fun _ _ => rfl)) (nomark _)) pa_nil)))) pa_nil)))), ?_⟩
    refine ⟨.ref pr, rfl, pr, _, rfl, .inr (SqT.of hp), _, rfl, by omega, by rw [List.length_map]; omega, fun D hD => ?_⟩
    refine lc_vals (walk_range (lo := 0)) hD (fun _ _ => trivial) yfn_same (fun i => .int (Lm.ne2 (r.getD i 0) (s'.getD i 0))) (by rw [List.length_map]; omega) (fun _ => rfl) (fun i v' H1 H2 hi e yl K1 k1 => ?_) fun H1 e1 hq1 => ?_
    · obtain ⟨rfl, e0⟩ := yl
      have e0 : v' = .int (i : Nat) := e0.trans (congrArg V.int (Int.zero_add _))
      subst e0
      have hi : i < (((r.map V.int).length : Nat) : Int).toNat := hi
      rw [List.length_map] at hi
      refine ⟨.ref pr, rfl, .int (i : Nat), rfl, pr, _, _, _, rfl, rfl, SqT.of (e _ _ hp), atI_nat (getD_at (by omega)), .ref pu, rfl, .int (i : Nat), rfl, pu, _, _, _, rfl, rfl, SqT.of (e _ _ hu), atI_nat (getD_at (by omega)), rfl, .inr ⟨_, rfl, ?_⟩⟩
      have k1' := k1 _ (Same.refl _)
      rw [ne_int]
      unfold Lm.ne2 at k1'
      by_cases h : r.getD i 0 = s'.getD i 0
      · rw [if_pos h] at k1'
        rw [decide_eq_true h]
        exact k1'
      · rw [if_neg h] at k1'
        rw [decide_eq_false h]
        exact k1'
    · rw [lst_S] at hq1
      refine ⟨D, _, rfl, SqL.of hq1, ?_⟩
      have q' := q H1 e1
      unfold churn Lm.S at q'
      have e9 : (((r.map V.int).length : Nat) : Int).toNat = r.length := by rw [List.length_map]; omega
      rw [← e9] at q'
      exact q'
def sp__law_transfer : Sp := fun vs H Q _ => ∃ (v u : V) (r s : List Int), vs = [v, u] ∧ TI r v H ∧ TI s u H ∧ r.length = s.length ∧ r.length ≤ 100 ∧ ∀ H', Same H H' → Q (.int (trans r s)) H'
theorem ok__law_transfer (T : Txt K mg) : Ok P w base 1 T._law_transfer sp__law_transfer := by
  have nd := sc__law_transfer.nd
  refine T._law_transfer.F.ok sc__law_transfer (fun vs H Q E h => ?_) (fun cdv A outer s H vs Q E hr h => ?_)
  · obtain ⟨v, u, r, s, rfl, _⟩ := h
    rfl
  · obtain ⟨v, u, r, s', rfl, ⟨pr, rfl, hp⟩, ⟨pu, rfl, hu⟩, hl, h100, q⟩ := h
    refine ⟨_, (pss_one (ps_ret (pe_callB (r := rSum K) (cr_sum rfl) (by rfl) T.n_sum (by decide +kernel) (pa_cons (pe_lc (own := [("_law_k", 2)]) (g := gName 2) (tt := tYes) rfl nd (pi_range1 (by rfl) T.n_range (pa_cons (pe_callB (r := rLen K) call_len_seq (by rfl) T.n_len (by decide +kernel) (pa_cons (pv 0) pa_nil)) pa_nil)) (blkOk_by (by kernel_rfl)) (fun _ _ _ _ _ => (pg_name (i := 2) nd rfl (by first | exact .inl rfl | exact .inr rfl))) (fun _ _ _ _ _ => pts_nil) (fun _ _ _ _ _ => (pe_callB (call_max2 rfl) (by rfl) T.n_max (by decide +kernel) (pa_cons pe_int (pa_cons (pe_op op_sub (pe_ix (r := rIxT K) ix_tup (pv 0) (pv 2) (fun _ _ => rfl)) (pe_ix (r := rIxT K) ix_tup (pv 1) (pv 2) (fun _ _ => rfl))) pa_nil))))) pa_nil)))), ?_⟩
    refine ⟨.ref pr, rfl, pr, _, rfl, .inr (SqT.of hp), _, rfl, by omega, by rw [List.length_map]; omega, fun D hD => ?_⟩
    refine lc_vals (walk_range (lo := 0)) hD (fun _ _ => trivial) yfn_same (fun i => .int (Lm.pos (r.getD i 0 - s'.getD i 0))) (by rw [List.length_map]; omega) (fun _ => rfl) (fun i v' H1 H2 hi e yl K1 k1 => ?_) fun H1 e1 hq1 => ?_
    · obtain ⟨rfl, e0⟩ := yl
      have e0 : v' = .int (i : Nat) := e0.trans (congrArg V.int (Int.zero_add _))
      subst e0
      have hi : i < (((r.map V.int).length : Nat) : Int).toNat := hi
      rw [List.length_map] at hi
      refine ⟨.ref pr, rfl, .int (i : Nat), rfl, pr, _, _, _, rfl, rfl, SqT.of (e _ _ hp), atI_nat (getD_at (by omega)), .ref pu, rfl, .int (i : Nat), rfl, pu, _, _, _, rfl, rfl, SqT.of (e _ _ hu), atI_nat (getD_at (by omega)), _, _, rfl, rfl, 0, _, rfl, ?_⟩
      exact k1 _ (Same.refl _)
    · rw [lst_S] at hq1
      refine ⟨D, _, rfl, SqL.of hq1, ?_⟩
      have q' := q H1 e1
      unfold trans Lm.S at q'
      have e9 : (((r.map V.int).length : Nat) : Int).toNat = r.length := by rw [List.length_map]; omega
      rw [← e9] at q'
      exact q'
def sp__law_least : Sp := fun vs H Q _ => ∃ (v1 v2 v3 v4 : V) (r a s b : List Int), vs = [v1, v2, v3, v4] ∧ TI r v1 H ∧ TI a v2 H ∧ TI s v3 H ∧ TI b v4 H ∧ r.length = s.length ∧ r.length ≤ 100 ∧ a.length = b.length ∧ a.length ≤ 100 ∧
  ∀ H', Same H H' → Q (.bl (decide (churn r s = trans a b))) H'
theorem ok__law_least (T : Txt K mg) : Ok P w base 2 T._law_least sp__law_least := by
  have nd := sc__law_least.nd
  refine T._law_least.F.ok sc__law_least (fun vs H Q E h => ?_) (fun cdv A outer s H vs Q E hr h => ?_)
  · obtain ⟨v1, v2, v3, v4, r, a, s, b, rfl, _⟩ := h
    rfl
  · obtain ⟨v1, v2, v3, v4, r, a, s', b, rfl, h1, h2, h3, h4, l1, l2, l3, l4, q⟩ := h
    refine ⟨_, (pss_one (ps_ret (pe_cmpR op_eq (pe_call (ok__law_churn T) (hr.mono (by decide)) rfl T._law_churn.g T._law_churn.F.kp T._law_churn.B .nil pass0 (pa_cons (pv 0) (pa_cons (pv 2) pa_nil))) (pe_call (ok__law_transfer T) (hr.mono (by decide)) rfl T._law_transfer.g T._law_transfer.F.kp T._law_transfer.B .nil pass0 (pa_cons (pv 1) (pa_cons (pv 3) pa_nil))) (nomark _)))), ?_⟩
    refine ⟨v1, rfl, v3, rfl, v1, v3, r, s', rfl, h1, h3, l1, l2, fun H1 e1 => ?_⟩
    refine ⟨v2, rfl, v4, rfl, v2, v4, a, b, rfl, h2.mono e1, h4.mono e1, l3, l4, fun H2 e2 => ⟨rfl, ?_⟩⟩
    rw [ne_int]
    exact q H2 (e1.trans e2)
def sp__law_different : Sp := fun vs H Q _ => ∃ (v u z : V) (r s t : List Int), vs = [v, u, z] ∧ TI r v H ∧ TI s u H ∧ TI t z H ∧ r.length = s.length ∧ r.length = t.length ∧ r.length ≤ 100 ∧ ∀ H', Same H H' → Q (.int (diff r s t)) H'
theorem ok__law_different (T : Txt K mg) : Ok P w base 1 T._law_different sp__law_different := by
  have nd := sc__law_different.nd
  refine T._law_different.F.ok sc__law_different (fun vs H Q E h => ?_) (fun cdv A outer s H vs Q E hr h => ?_)
  · obtain ⟨v, u, z, r, s, t, rfl, _⟩ := h
    rfl
  · obtain ⟨v, u, z, r, s', t, rfl, ⟨pr, rfl, hp⟩, ⟨pu, rfl, hu⟩, ⟨pz, rfl, hz⟩, hl, hl2, h100, q⟩ := h
    refine ⟨_, (pss_one (ps_ret (pe_callB (r := rSum K) (cr_sum rfl) (by rfl) T.n_sum (by decide +kernel) (pa_cons (pe_lc (own := [("_law_k", 3)]) (g := gName 3) (tt := tYes) rfl nd (pi_range1 (by rfl) T.n_range (pa_cons (pe_callB (r := rLen K) call_len_seq (by rfl) T.n_len (by decide +kernel) (pa_cons (pv 0) pa_nil)) pa_nil)) (blkOk_by (by kernel_rfl)) (fun _ _ _ _ _ => (pg_name (i := 3) nd rfl (by first | exact .inl rfl | exact .inr rfl))) (fun _ _ _ _ _ => pts_nil) (fun _ _ _ _ _ => (pe_callTy call_int1 (by rfl) T.n_int (by decide +kernel) (pa_cons (pe_and (pe_cmpR op_ne (pe_ix (r := rIxT K) ix_tup (pv 0) (pv 3) (fun _ _ => rfl)) (pe_ix (r := rIxT K) ix_tup (pv 1) (pv 3) (fun _ _ => rfl)) (nomark _)) (pe_and (pe_cmpR op_ne (pe_ix (r := rIxT K) ix_tup (pv 1) (pv 3) (fun _ _ => rfl)) (pe_ix (r := rIxT K) ix_tup (pv 2) (pv 3) (fun _ _ => rfl)) (nomark _)) (pe_one (pe_cmpR op_ne (pe_ix (r := rIxT K) ix_tup (pv 0) (pv 3) (fun _ _ => rfl)) (pe_ix (r := rIxT K) ix_tup (pv 2) (pv 3) (fun _ _ => rfl)) (nomark _))))) pa_nil)))) pa_nil)))), ?_⟩
    refine ⟨.ref pr, rfl, pr, _, rfl, .inr (SqT.of hp), _, rfl, by omega, by rw [List.length_map]; omega, fun D hD => ?_⟩
    refine lc_vals (walk_range (lo := 0)) hD (fun _ _ => trivial) yfn_same (fun i => .int (Lm.ne3 (r.getD i 0) (s'.getD i 0) (t.getD i 0))) (by rw [List.length_map]; omega) (fun _ => rfl) (fun i v' H1 H2 hi e yl K1 k1 => ?_) fun H1 e1 hq1 => ?_
    · obtain ⟨rfl, e0⟩ := yl
      have e0 : v' = .int (i : Nat) := e0.trans (congrArg V.int (Int.zero_add _))
      subst e0
      have hi : i < (((r.map V.int).length : Nat) : Int).toNat := hi
      rw [List.length_map] at hi
      have k1' := k1 _ (Same.refl _)
      unfold Lm.ne3 at k1'
      refine ⟨.ref pr, rfl, .int (i : Nat), rfl, pr, _, _, _, rfl, rfl, SqT.of (e _ _ hp), atI_nat (getD_at (by omega)), .ref pu, rfl, .int (i : Nat), rfl, pu, _, _, _, rfl, rfl, SqT.of (e _ _ hu), atI_nat (getD_at (by omega)), rfl, !decide (r.getD i 0 = s'.getD i 0), ?_, ?_⟩
      · rw [ne_int]
      by_cases h : r.getD i 0 = s'.getD i 0
      · rw [if_pos (.inl h)] at k1'
        rw [decide_eq_true h]
        exact iteF (.inr ⟨false, rfl, k1'⟩)
      rw [decide_eq_false h]
      refine iteT ⟨.ref pu, rfl, .int (i : Nat), rfl, pu, _, _, _, rfl, rfl, SqT.of (e _ _ hu), atI_nat (getD_at (by omega)), .ref pz, rfl, .int (i : Nat), rfl, pz, _, _, _, rfl, rfl, SqT.of (e _ _ hz), atI_nat (getD_at (by omega)), rfl, !decide (s'.getD i 0 = t.getD i 0), ?_, ?_⟩
      · rw [ne_int]
      by_cases h2 : s'.getD i 0 = t.getD i 0
      · rw [if_pos (.inr (.inl h2))] at k1'
        rw [decide_eq_true h2]
        exact iteF (.inr ⟨false, rfl, k1'⟩)
      rw [decide_eq_false h2]
      refine iteT ⟨.ref pr, rfl, .int (i : Nat), rfl, pr, _, _, _, rfl, rfl, SqT.of (e _ _ hp), atI_nat (getD_at (by omega)), .ref pz, rfl, .int (i : Nat), rfl, pz, _, _, _, rfl, rfl, SqT.of (e _ _ hz), atI_nat (getD_at (by omega)), rfl, .inr ⟨_, rfl, ?_⟩⟩
      rw [ne_int]
      by_cases h3 : r.getD i 0 = t.getD i 0
      · rw [if_pos (.inr (.inr h3))] at k1'
        rw [decide_eq_true h3]
        exact k1'
      · rw [if_neg (fun z => by rcases z with z | z | z <;> contradiction)] at k1'
        rw [decide_eq_false h3]
        exact k1'
    · rw [lst_S] at hq1
      refine ⟨D, _, rfl, SqL.of hq1, ?_⟩
      have q' := q H1 e1
      unfold diff Lm.S at q'
      have e9 : (((r.map V.int).length : Nat) : Int).toNat = r.length := by rw [List.length_map]; omega
      rw [← e9] at q'
      exact q'
end
end LmW
/-! the law's helpers: tables. -/
namespace LmW
open PySem PySem.Spec PyProof.Rows L2
def tabI (k n : Nat) (one a b c s : List Int) : List (List Int × List Int) := (ofL k n c).flatMap fun t => if churn one t = trans a c ∧ churn s t = trans b c then [(s, t)] else []
def tabO (k n : Nat) (one a b c s : List Int) : List (List Int × List Int) := if churn one s = trans a b then tabI k n one a b c s else []
def tabL (k n : Nat) (one a b c : List Int) : List (List Int × List Int) := (ofL k n b).flatMap (tabO k n one a b c)
def RTab (one : List Int) (p : List Int × List Int) (v : V) (H : Hp) : Prop := TO TI [one, p.1, p.2] v H
theorem stb_TO {α : Type} {R : α → V → Hp → Prop} (hR : Stb R) : Stb (TO R) := fun xs v H H' E h k hE => by
  obtain ⟨a, vs, rfl, ha, ey⟩ := h
  refine ⟨a, vs, rfl, k a _ (fun z => ?_) ha, ey.mono fun x v r => hR x v _ _ _ r k hE⟩
  obtain ⟨l, hl⟩ := hE a z
  rw [ha] at hl
  cases hl
theorem stb_RTab (one : List Int) : Stb (RTab one) := fun p v H H' E h k hE => stb_TO stb_TI _ v H H' E h k hE
theorem mem_ofL {k n : Nat} {a r : List Int} (h : r ∈ ofL k n a) : r.length = n ∧ (∀ x ∈ r, Lm.Rng k x) ∧ cntL k r = a := by
  obtain ⟨h1, h2⟩ := List.mem_filter.mp h
  obtain ⟨h3, h4⟩ := allR_row h1
  exact ⟨h3, h4, of_decide_eq_true h2⟩
theorem ofL_len {k n : Nat} (sz : Sz k n) (a : List Int) : (ofL k n a).length ≤ 81 := by
  have h := List.length_filter_le (fun r => decide (cntL k r = a)) (allR k n)
  rw [allR_len] at h
  exact Nat.le_trans h sz.2.2.2
theorem flat_le {α β : Type} (f : α → List β) (m : Nat) (hf : ∀ x, (f x).length ≤ m) : ∀ l : List α, (l.flatMap f).length ≤ l.length * m
  | [] => by simp
  | x :: l => by
    have h1 := hf x
    have h2 := flat_le f m hf l
    rw [List.flatMap_cons, List.length_append, List.length_cons, Nat.succ_mul]
    omega
theorem tabI_step (one a c b s t : List Int) : (if churn one t = trans a c ∧ churn s t = trans b c then [(s, t)] else []).length ≤ 1 := by
  split
  · exact Nat.le_refl _
  · exact Nat.zero_le _
structure T3 (l : Addr) (x y z : V) (a b c : List Int) (k n : Nat) (H : Hp) : Prop where
  at_ : H l = some (.lst [x, y, z])
  ha : TI a x H
  hb : TI b y H
  hc : TI c z H
  na : Alloc a k (n : Int)
  nb : Alloc b k (n : Int)
  nc : Alloc c k (n : Int)
  sz : Sz k n
theorem T3.mono {l : Addr} {x y z : V} {a b c : List Int} {k n : Nat} {H H' : Hp} (h : T3 l x y z a b c k n H) (e : Same H H') : T3 l x y z a b c k n H' :=
  ⟨e _ _ h.at_, h.ha.mono e, h.hb.mono e, h.hc.mono e, h.na, h.nb, h.nc, h.sz⟩
section
variable {P : Program} {w : World} {K : PySem.W.Frag} {mg : Str → Option Value} {base : Heap}
def sp__law_tables : Sp := fun vs H Q _ => ∃ (v1 : V) (l3 : Addr) (x y z : V) (one a b c : List Int) (k n : Nat), vs = [v1, .ref l3] ∧ TI one v1 H ∧ T3 l3 x y z a b c k n H ∧ one.length = n ∧
  ∀ l us H', Same H H' → H' l = some (.lst us) → Each (RTab one) H' (tabL k n one a b c) us → Q (.ref l) H'
theorem ok__law_tables (T : Txt K mg) : Ok P w base 3 T._law_tables sp__law_tables := by
  have nd := sc__law_tables.nd
  refine T._law_tables.F.ok sc__law_tables (fun vs H Q E h => ?_) (fun cdv A outer s H vs Q E hr h => ?_)
  · obtain ⟨v1, l3, x, y, z, one, a, b, c, k, n, rfl, _⟩ := h
    rfl
  · obtain ⟨v1, l3, x, y, z, one, a, b, c, k, n, rfl, h1, h3, hl1, q⟩ := h
    refine ⟨_, (pss_cons (ps_set (i := 2) nd rfl (by first | exact .inl rfl | exact .inr rfl) (pe_lst pa_nil))
      (pss_cons (ps_for PassesOwn.never rfl (pi_list (pe_call (ok__law_of T) (hr.mono (by decide)) rfl T._law_of.g T._law_of.F.kp T._law_of.B .nil pass0 (pa_cons (pe_ix (r := rIxL K) ix_list (pv 1) pe_int (fun _ _ => rfl)) pa_nil))) (pg_name (i := 3) nd rfl (by first | exact .inl rfl | exact .inr rfl))
        (pss_one (ps_if (pt_val (pe_call (ok__law_least T) (hr.mono (by decide)) rfl T._law_least.g T._law_least.F.kp T._law_least.B .nil pass0 (pa_cons (pv 0) (pa_cons (pe_ix (r := rIxL K) ix_list (pv 1) pe_int (fun _ _ => rfl)) (pa_cons (pv 3) (pa_cons (pe_ix (r := rIxL K) ix_list (pv 1) pe_int (fun _ _ => rfl)) pa_nil)))))) (pss_one (ps_for PassesOwn.never rfl (pi_list (pe_call (ok__law_of T) (hr.mono (by decide)) rfl T._law_of.g T._law_of.F.kp T._law_of.B .nil pass0 (pa_cons (pe_ix (r := rIxL K) ix_list (pv 1) pe_int (fun _ _ => rfl)) pa_nil))) (pg_name (i := 4) nd rfl (by first | exact .inl rfl | exact .inr rfl))
            (pss_one (ps_if (PW.pt (pw_and (pt_val (pe_call (ok__law_least T) (hr.mono (by decide)) rfl T._law_least.g T._law_least.F.kp T._law_least.B .nil pass0 (pa_cons (pv 0) (pa_cons (pe_ix (r := rIxL K) ix_list (pv 1) pe_int (fun _ _ => rfl)) (pa_cons (pv 4) (pa_cons (pe_ix (r := rIxL K) ix_list (pv 1) pe_int (fun _ _ => rfl)) pa_nil)))))) (pw_and1 (pt_val (pe_call (ok__law_least T) (hr.mono (by decide)) rfl T._law_least.g T._law_least.F.kp T._law_least.B .nil pass0 (pa_cons (pv 3) (pa_cons (pe_ix (r := rIxL K) ix_list (pv 1) pe_int (fun _ _ => rfl)) (pa_cons (pv 4) (pa_cons (pe_ix (r := rIxL K) ix_list (pv 1) pe_int (fun _ _ => rfl)) pa_nil))))))))) (pss_one (ps_expr (pe_bm PySem.F.plainAttrs_list PySem.F.slot_list_append PySem.F.type_list_append mt_append (pv 2) (pa_cons (pe_tup (pa_cons (pv 0) (pa_cons (pv 3) (pa_cons (pv 4) pa_nil)))) pa_nil)))) pss_nil)))) pss_nil)))
      (pss_one (ps_ret (pv 2))))), ?_⟩
    have sz := h3.sz
    have k5 := sz.2.1
    have n4 := sz.2.2.1
    have la := h3.na.1
    have lb := h3.nb.1
    have lc' := h3.nc.1
    refine ⟨by show 0 ≤ sizeLine; decide, fun g ng => ?_⟩
    have g0 : Grow (RTab one) H _ g [] [] := ⟨same_new (o := .lst []) ng, ng, upd_same, .nil⟩
    have h3a := h3.mono g0.same
    refine ⟨.ref l3, rfl, l3, _, _, y, rfl, rfl, SqL.of h3a.at_, atI_nat (j := 1) rfl, y, b, k, n, rfl, h3a.hb, h3a.nb, sz, fun f us H1 e1 nf hf ef => ?_⟩
    have g1 := g0.mono (stb_RTab one) e1
    refine ⟨f, rfl, ⟨_, SqL.of hf⟩, ?_⟩
    have ngf : g ≠ f := fun z => by
      rw [← z, g0.at_] at nf
      cases nf
    have wl : ∀ (X : List (List Int × List Int)) (ws : List V) (H' : Hp), Each (RTab one) H' X ws → X.length ≤ 10000 → ws.length < sizeLine := fun X ws H' h hx => smallL (by rw [← h.len]; omega)
    have lI : ∀ s, (tabI k n one a b c s).length ≤ 81 := fun s => Nat.le_trans (flat_le _ 1 (fun t => tabI_step one a c b s t) _) (by have := ofL_len sz c; omega)
    have lO : ∀ s, (tabO k n one a b c s).length ≤ 81 := fun s => by
      unfold tabO
      split
      · exact lI s
      · exact Nat.zero_le _
    refine for_it walk_list (fun j σ H' => ∃ s3 s4 ws, σ = [some v1, some (.ref l3), some (.ref g), s3, s4] ∧ Keep (fun b => b = g) H1 H' ∧ Grow (RTab one) H H' g (((ofL k n b).take j).flatMap (tabO k n one a b c)) ws)
      ⟨_, _, [], rfl, Keep.refl _ _, g1⟩ (fun j σ H' _ pv => by obtain ⟨_, _, _, _, kp, _⟩ := pv; exact SqL.of (kp _ _ (fun z => ngf z.symm) hf)) (fun j v σ H2 H2' hj pv yl => ?_) fun σ H2 pv => ?_
    · obtain ⟨s3, s4, ws, rfl, kp, gr⟩ := pv
      obtain ⟨rfl, hv⟩ := yl
      obtain ⟨s, hs, ts⟩ := ef.getV hv
      have ms := mem_ofL (List.mem_of_getElem? hs)
      have hEg : ∀ b, b = g → ∃ l, H1 b = some (.lst l) := fun b z => ⟨_, z ▸ g1.at_⟩
      have tv := ts.keep kp hEg
      have h1b := h1.mono gr.same
      have h3b := h3.mono gr.same
      have hj81 : j ≤ 81 := by
        have := ef.len
        have := ofL_len sz b
        omega
      refine ⟨v1, rfl, .ref l3, rfl, l3, _, _, x, rfl, rfl, SqL.of h3b.at_, atI_nat (j := 0) rfl, v, rfl, .ref l3, rfl, l3, _, _, y, rfl, rfl, SqL.of h3b.at_, atI_nat (j := 1) rfl, v1, x, v, y, one, a, s, b, rfl, h1b, h3b.ha, tv, h3b.hb, by rw [hl1, ms.1], by omega, by rw [la, lb], by omega, fun H3 e3 => ⟨decide (churn one s = trans a b), rfl, ?_⟩⟩
      have gr3 := gr.mono (stb_RTab one) e3
      have kp3 := kp.trans (Keep.of e3)
      by_cases hc : churn one s = trans a b
      · rw [decide_eq_true hc]
        have eO : tabO k n one a b c s = tabI k n one a b c s := if_pos hc
        have h3c := h3b.mono e3
        refine iteT ⟨.ref l3, rfl, l3, _, _, z, rfl, rfl, SqL.of h3c.at_, atI_nat (j := 2) rfl, z, c, k, n, rfl, h3c.hc, h3c.nc, sz, fun f2 us2 H4 e4 nf2 hf2 ef2 => ?_⟩
        have gr4 := gr3.mono (stb_RTab one) e4
        have ngf2 : g ≠ f2 := fun z => by
          rw [← z, gr3.at_] at nf2
          cases nf2
        refine ⟨f2, rfl, ⟨_, SqL.of hf2⟩, ?_⟩
        refine for_it walk_list (fun i σ H' => ∃ s4 ws, σ = [some v1, some (.ref l3), some (.ref g), some v, s4] ∧ Keep (fun b => b = g) H4 H' ∧ Grow (RTab one) H H' g (((ofL k n b).take j).flatMap (tabO k n one a b c) ++ ((ofL k n c).take i).flatMap (fun t => if churn one t = trans a c ∧ churn s t = trans b c then [(s, t)] else [])) ws)
          ⟨_, ws, rfl, Keep.refl _ _, by rw [List.take_zero, List.flatMap_nil, List.append_nil]; exact gr4⟩ (fun i σ H' _ pv => by obtain ⟨_, _, _, kp, _⟩ := pv; exact SqL.of (kp _ _ (fun z => ngf2 z.symm) hf2)) (fun i v2 σ H5 H5' hi pv yl => ?_) fun σ H5 pv => ?_
        · obtain ⟨s4, ws, rfl, kp5, gr5⟩ := pv
          obtain ⟨rfl, hv2⟩ := yl
          obtain ⟨t, ht, tt⟩ := ef2.getV hv2
          have mt := mem_ofL (List.mem_of_getElem? ht)
          have hEg4 : ∀ b, b = g → ∃ l, H4 b = some (.lst l) := fun b z => ⟨_, z ▸ gr4.at_⟩
          have tv2 := tt.keep kp5 hEg4
          have tv5 := ((tv.mono e3).mono e4).keep kp5 hEg4
          have h1d := h1.mono gr5.same
          have h3d := h3.mono gr5.same
          rw [take_flat _ ht, ← List.append_assoc]
          have len5 : ws.length < sizeLine := by
            refine wl _ ws _ gr5.ey ?_
            rw [List.length_append]
            have a1 := flat_le (tabO k n one a b c) 81 lO ((ofL k n b).take j)
            have a2 := flat_le (fun t => if churn one t = trans a c ∧ churn s t = trans b c then [(s, t)] else []) 1 (fun t => tabI_step one a c b s t) ((ofL k n c).take i)
            have a3 : ((ofL k n b).take j).length ≤ 81 := by
              rw [List.length_take]
              omega
            have a4 : ((ofL k n c).take i).length ≤ 81 := by
              rw [List.length_take]
              have := ofL_len sz c
              omega
            have a5 : ((ofL k n b).take j).length * 81 ≤ 81 * 81 := Nat.mul_le_mul_right 81 a3
            omega
          refine ⟨v1, rfl, .ref l3, rfl, l3, _, _, x, rfl, rfl, SqL.of h3d.at_, atI_nat (j := 0) rfl, v2, rfl, .ref l3, rfl, l3, _, _, z, rfl, rfl, SqL.of h3d.at_, atI_nat (j := 2) rfl, v1, x, v2, z, one, a, t, c, rfl, h1d, h3d.ha, tv2, h3d.hc, by rw [hl1, mt.1], by omega, by rw [la, lc'], by omega, fun H6 e6 => ⟨decide (churn one t = trans a c), rfl, ?_⟩⟩
          have gr6 := gr5.mono (stb_RTab one) e6
          have kp6 := kp5.trans (Keep.of e6)
          by_cases hc1 : churn one t = trans a c
          · rw [decide_eq_true hc1]
            have h3e := h3d.mono e6
            refine iteT ⟨v, rfl, .ref l3, rfl, l3, _, _, y, rfl, rfl, SqL.of h3e.at_, atI_nat (j := 1) rfl, v2, rfl, .ref l3, rfl, l3, _, _, z, rfl, rfl, SqL.of h3e.at_, atI_nat (j := 2) rfl, v, y, v2, z, s, b, t, c, rfl, tv5.mono e6, h3e.hb, tv2.mono e6, h3e.hc, by rw [ms.1, mt.1], by omega, by rw [lb, lc'], by omega, fun H7 e7 => ⟨decide (churn s t = trans b c), rfl, ?_⟩⟩
            have gr7 := gr6.mono (stb_RTab one) e7
            have kp7 := kp6.trans (Keep.of e7)
            by_cases hc2 : churn s t = trans b c
            · rw [decide_eq_true hc2, if_pos ⟨hc1, hc2⟩]
              refine iteT ⟨.ref g, rfl, .inl ⟨rfl, _, SqL.of gr7.at_⟩, v1, rfl, v, rfl, v2, rfl, by show 3 ≤ sizeLine; decide, fun p np => ?_⟩
              have sp := same_new (o := .tup [v1, v, v2]) np
              have gr8 := gr7.mono (stb_RTab one) sp
              refine ⟨g, ws, .ref p, rfl, rfl, gr8.at_, len5, _, _, rfl, (kp7.trans (Keep.of sp)).mut (.inr rfl), gr8.app (stb_RTab one) ?_⟩
              exact ⟨p, [v1, v, v2], rfl, upd_same, .cons (h1.mono gr8.same) (.cons (((tv5.mono e6).mono e7).mono sp) (.cons (((tv2.mono e6).mono e7).mono sp) .nil))⟩
            · rw [decide_eq_false hc2, if_neg (fun z => hc2 z.2), List.append_nil]
              exact iteF ⟨_, ws, rfl, kp7, gr7⟩
          · rw [decide_eq_false hc1, if_neg (fun z => hc1 z.1), List.append_nil]
            exact iteF (iteF ⟨_, ws, rfl, kp6, gr6⟩)
        · obtain ⟨s4, ws, rfl, kp5, gr5⟩ := pv
          have ez : (ofL k n c).take us2.length = ofL k n c := List.take_of_length_le (by rw [ef2.len]; exact Nat.le_refl _)
          rw [ez] at gr5
          refine ⟨_, _, ws, rfl, (kp3.trans (Keep.of e4)).trans kp5, ?_⟩
          rw [take_flat _ hs, eO]
          exact gr5
      · rw [decide_eq_false hc]
        refine iteF ⟨_, _, ws, rfl, kp3, ?_⟩
        have eO : tabO k n one a b c s = [] := if_neg hc
        rw [take_flat _ hs, eO, List.append_nil]
        exact gr3
    · obtain ⟨s3, s4, ws, rfl, kp, gr⟩ := pv
      have ez : (ofL k n b).take us.length = ofL k n b := List.take_of_length_le (by rw [ef.len]; exact Nat.le_refl _)
      rw [ez] at gr
      exact ⟨.ref g, rfl, q g ws H2 gr.same gr.at_ gr.ey⟩
end
end LmW
/-! the plain law: tables and what they say. -/
namespace LmW
open PySem PySem.Spec PyProof.Rows L2
theorem map_getD {p : Lm.Tr → Int} {T : List Lm.Tr} {i : Nat} (h : i < T.length) : (T.map p).getD i 0 = p (T.getD i (0, 0, 0)) := by
  rw [List.getD_eq_getElem?_getD, List.getD_eq_getElem?_getD, List.getElem?_map, List.getElem?_eq_getElem h]
  rfl
theorem S_L (T : List Lm.Tr) (F : Lm.Tr → Int) : Lm.S T.length (fun i => F (T.getD i (0, 0, 0))) = Lm.L T F := by
  unfold Lm.S Lm.L
  rw [range_list' (0, 0, 0) F T]
theorem churn_map (T : List Lm.Tr) (p q : Lm.Tr → Int) : churn (T.map p) (T.map q) = Lm.L T fun t => Lm.ne2 (p t) (q t) := by
  unfold churn
  rw [← S_L, List.length_map]
  exact Lm.S_congr fun i hi => by rw [map_getD hi, map_getD hi]
theorem diff_map (T : List Lm.Tr) (p q r : Lm.Tr → Int) : diff (T.map p) (T.map q) (T.map r) = Lm.L T fun t => Lm.ne3 (p t) (q t) (r t) := by
  unfold diff
  rw [← S_L, List.length_map]
  exact Lm.S_congr fun i hi => by rw [map_getD hi, map_getD hi, map_getD hi]
theorem cntL_iff {k : Nat} {r a : List Int} (ha : a.length = k) : cntL k r = a ↔ ∀ v : Nat, v < k → Lm.cnt r (v : Int) = a.getD v 0 := by
  constructor
  · intro h v hv
    rw [← h]
    unfold cntL
    rw [List.getD_eq_getElem?_getD, List.getElem?_map, List.getElem?_range hv]
    rfl
  · intro h
    refine List.ext_getElem (by rw [cntL_len, ha]) fun i h1 h2 => ?_
    have hi : i < k := by rw [cntL_len] at h1; exact h1
    have e := h i hi
    rw [List.getD_eq_getElem?_getD, List.getElem?_eq_getElem h2] at e
    have e2 : (cntL k r)[i]? = some (Lm.cnt r (i : Int)) := by
      unfold cntL
      rw [List.getElem?_map, List.getElem?_range hi]
      rfl
    have e3 := List.getElem?_eq_getElem h1
    rw [e2] at e3
    have e4 := Option.some.inj e3
    rw [← e4]
    exact e
/-- a table of three, as triples -/
structure Tab3 (k n : Nat) (a b c : List Int) (T : List Lm.Tr) : Prop where
  len : T.length = n
  ink : ∀ t ∈ T, Lm.InK k t
  cA : cntL k (T.map (·.1)) = a
  cB : cntL k (T.map (·.2.1)) = b
  cC : cntL k (T.map (·.2.2)) = c
  n01 : churn (T.map (·.1)) (T.map (·.2.1)) = trans a b
  n02 : churn (T.map (·.1)) (T.map (·.2.2)) = trans a c
  n12 : churn (T.map (·.2.1)) (T.map (·.2.2)) = trans b c
section
variable {k n : Nat} {a b c : List Int} {T : List Lm.Tr}
theorem trans_S (ha : a.length = k) : trans a b = Lm.S k fun i => Lm.pos (a.getD i 0 - b.getD i 0) := by
  subst ha
  rfl
/-- M1 -/
theorem Tab3.diff (h : Tab3 k n a b c T) : diff (T.map (·.1)) (T.map (·.2.1)) (T.map (·.2.2)) = (n : Int) - (medL k a b c).sum := by
  have la : a.length = k := by rw [← h.cA, cntL_len]
  have lb : b.length = k := by rw [← h.cB, cntL_len]
  have lc' : c.length = k := by rw [← h.cC, cntL_len]
  have m := Lm.table_diff (T := T) (K := k) (p := fun t => t.1) (q := fun t => t.2.1) (r := fun t => t.2.2) (A := fun i => a.getD i 0) (B := fun i => b.getD i 0) (C := fun i => c.getD i 0)
    (fun t ht => (h.ink t ht).1) (fun t ht => (h.ink t ht).2.1) (fun t ht => (h.ink t ht).2.2) ((cntL_iff la).mp h.cA) ((cntL_iff lb).mp h.cB) ((cntL_iff lc').mp h.cC)
    (by rw [← churn_map, ← trans_S la]; exact h.n01) (by rw [← churn_map, ← trans_S la]; exact h.n02) (by rw [← churn_map, ← trans_S lb]; exact h.n12)
  rw [diff_map, m, h.len, medL_sum]
theorem diff_nonneg (r s t : List Int) : 0 ≤ LmW.diff r s t := by
  unfold LmW.diff
  refine Lm.S_nonneg fun v _ => ?_
  unfold Lm.ne3
  split <;> decide
theorem Tab3.small (h : Tab3 k n a b c T) : (medL k a b c).sum ≤ (n : Int) := by
  have := h.diff
  have := diff_nonneg (T.map (·.1)) (T.map (·.2.1)) (T.map (·.2.2))
  omega
/-- what is dealt -/
theorem tab_dealt (ha : Alloc a k (n : Int)) (hb : Alloc b k (n : Int)) (hc : Alloc c k (n : Int)) (hm : (medL k a b c).sum ≤ (n : Int)) : Tab3 k n a b c (dlT k a b c) := by
  obtain ⟨_, _, _, _, _, len, ink, cA, cB, cC, n01, n02, n12⟩ := Lm.dealt_ok (al_of ha hb hc) (medL_sum k a b c ▸ hm)
  exact ⟨by have : ((dlT k a b c).length : Int) = n := len; omega, ink, (cntL_iff ha.1).mpr cA, (cntL_iff hb.1).mpr cB, (cntL_iff hc.1).mpr cC,
    by rw [churn_map, trans_S ha.1]; exact n01, by rw [churn_map, trans_S ha.1]; exact n02, by rw [churn_map, trans_S hb.1]; exact n12⟩
/-- the tables that the law lists are tables -/
theorem tab_listed {one s t : List Int} (ho : one ∈ ofL k n a) (h : (s, t) ∈ tabL k n one a b c) : Tab3 k n a b c (Lm.lft one s t) ∧ s.length = n ∧ t.length = n ∧
    (Lm.lft one s t).map (·.1) = one ∧ (Lm.lft one s t).map (·.2.1) = s ∧ (Lm.lft one s t).map (·.2.2) = t := by
  obtain ⟨s', hs, h⟩ := List.mem_flatMap.mp h
  unfold tabO at h
  by_cases h1 : churn one s' = trans a b
  · rw [if_pos h1] at h
    obtain ⟨t', ht, h⟩ := List.mem_flatMap.mp h
    by_cases h2 : churn one t' = trans a c ∧ churn s' t' = trans b c
    · rw [if_pos h2] at h
      have e : (s, t) = (s', t') := by simpa using h
      cases e
      have mo := mem_ofL ho
      have ms := mem_ofL hs
      have mt := mem_ofL ht
      have l1 : one.length = s.length := by rw [mo.1, ms.1]
      have l2 : s.length = t.length := by rw [ms.1, mt.1]
      have e0 := Lm.lft_0 l1 l2
      have e1 := Lm.lft_1 l1 l2
      have e2 := Lm.lft_2 l1 l2
      refine ⟨⟨by rw [Lm.lft_len l1 l2, mo.1], fun u hu => ⟨?_, ?_, ?_⟩, by rw [e0]; exact mo.2.2, by rw [e1]; exact ms.2.2, by rw [e2]; exact mt.2.2, by rw [e0, e1]; exact h1, by rw [e0, e2]; exact h2.1, by rw [e1, e2]; exact h2.2⟩, ms.1, mt.1, e0, e1, e2⟩
      · exact mo.2.1 _ (by rw [← e0]; exact List.mem_map.mpr ⟨u, hu, rfl⟩)
      · exact ms.2.1 _ (by rw [← e1]; exact List.mem_map.mpr ⟨u, hu, rfl⟩)
      · exact mt.2.1 _ (by rw [← e2]; exact List.mem_map.mpr ⟨u, hu, rfl⟩)
    · rw [if_neg h2] at h
      exact absurd h List.not_mem_nil
  · rw [if_neg h1] at h
    exact absurd h List.not_mem_nil
/-- where there is a table there is one for each first assignment -/
theorem tab_lists {one : List Int} (ho : one ∈ ofL k n a) (h : Tab3 k n a b c T) : tabL k n one a b c ≠ [] := by
  have mo := mem_ofL ho
  have la : a.length = k := by rw [← h.cA, cntL_len]
  obtain ⟨T', pm, e⟩ := Lm.laid (K := k) one T mo.2.1 (by rw [h.len, mo.1]) fun v hv => by
    rw [(cntL_iff la).mp h.cA v hv, (cntL_iff la).mp mo.2.2 v hv]
  have cn : ∀ (p : Lm.Tr → Int), cntL k (T'.map p) = cntL k (T.map p) := fun p => by
    unfold cntL
    refine List.map_congr_left fun i _ => ?_
    exact Lm.cnt_perm (pm.map p) _
  have ch : ∀ (p q : Lm.Tr → Int), churn (T'.map p) (T'.map q) = churn (T.map p) (T.map q) := fun p q => by
    rw [churn_map, churn_map]
    exact Lm.L_perm pm _
  have l' : T'.length = n := by rw [pm.length_eq, h.len]
  have ink : ∀ t ∈ T', Lm.InK k t := fun t ht => h.ink t (pm.mem_iff.mp ht)
  have ms : T'.map (·.2.1) ∈ ofL k n b := List.mem_filter.mpr ⟨mem_allR (by rw [List.length_map, l']) (fun x hx => by
    obtain ⟨t, ht, rfl⟩ := List.mem_map.mp hx
    exact (ink t ht).2.1), decide_eq_true (by rw [cn]; exact h.cB)⟩
  have mt : T'.map (·.2.2) ∈ ofL k n c := List.mem_filter.mpr ⟨mem_allR (by rw [List.length_map, l']) (fun x hx => by
    obtain ⟨t, ht, rfl⟩ := List.mem_map.mp hx
    exact (ink t ht).2.2), decide_eq_true (by rw [cn]; exact h.cC)⟩
  have h1 : churn one (T'.map (·.2.1)) = trans a b := by rw [← e, ch]; exact h.n01
  have h2 : churn one (T'.map (·.2.2)) = trans a c := by rw [← e, ch]; exact h.n02
  have h3 : churn (T'.map (·.2.1)) (T'.map (·.2.2)) = trans b c := by rw [ch]; exact h.n12
  have m : (T'.map (·.2.1), T'.map (·.2.2)) ∈ tabL k n one a b c := by
    refine List.mem_flatMap.mpr ⟨_, ms, ?_⟩
    unfold tabO
    rw [if_pos h1]
    refine List.mem_flatMap.mpr ⟨_, mt, ?_⟩
    rw [if_pos ⟨h2, h3⟩]
    exact List.mem_singleton.mpr rfl
  intro z
  rw [z] at m
  exact absurd m List.not_mem_nil
/-- an assignment there is -/
theorem of_some (ha : Alloc a k (n : Int)) : ∃ one, (ofL k n a)[0]? = some one ∧ one ∈ ofL k n a := by
  have pos : ∀ i, 0 ≤ a.getD i 0 := fun i => by
    rw [List.getD_eq_getElem?_getD]
    cases e : a[i]? with
    | none => exact Int.le_refl _
    | some x => exact ha.2.1 x (List.mem_of_getElem? e)
  have hl : (Lm.rp (fun i => a.getD i 0) k).length = n := by
    have h1 := Lm.rp_len (f := fun i => a.getD i 0) pos k
    have h2 := sum_S ha.1
    have h3 := ha.2.2
    omega
  have m : Lm.rp (fun i => a.getD i 0) k ∈ ofL k n a := List.mem_filter.mpr ⟨mem_allR hl (fun x hx => Lm.rp_mem hx), decide_eq_true ((cntL_iff ha.1).mpr fun v hv => Lm.rp_cnt pos hv)⟩
  cases e : ofL k n a with
  | nil =>
    rw [e] at m
    exact absurd m List.not_mem_nil
  | cons x l => exact ⟨x, rfl, List.mem_cons_self⟩
end
end LmW
/-! the law. -/
namespace LmW
open PySem PySem.Spec PyProof.Rows L2
section
variable {P : Program} {w : World} {K : PySem.W.Frag} {mg : Str → Option Value} {base : Heap}
def pk {α : Type} (x y z : α) : Nat → α
  | 0 => x
  | 1 => y
  | _ => z
theorem pk_at {α : Type} {x y z : α} {i : Nat} (hi : i < 3) : [x, y, z][i]? = some (pk x y z i) := by
  match i, hi with
  | 0, _ => rfl
  | 1, _ => rfl
  | 2, _ => rfl
def sp_law (K : PySem.W.Frag) : Sp := fun vs H Q _ => ∃ (l : Addr) (ns : List Int), vs = [.ref l] ∧ SqL K H l (ns.map V.int) ∧ ∀ H', Q (.bl true) H'
theorem ok_law (T : Txt K mg) : Ok P w base 8 T.law (sp_law K) := by
  have nd := sc_law.nd
  refine T.law.F.ok sc_law (fun vs H Q E h => ?_) (fun cdv A outer s H vs Q E hr h => ?_)
  · obtain ⟨l, ns, rfl, _⟩ := h
    rfl
  · obtain ⟨l, ns, rfl, hl, q⟩ := h
    refine ⟨_, (pss_cons (ps_set (i := 1) nd rfl (by first | exact .inl rfl | exact .inr rfl) (pe_call (ok__law_stream T) (hr.mono (by decide)) rfl T._law_stream.g T._law_stream.F.kp T._law_stream.B .nil pass0 (pa_cons (pv 0) pa_nil)))
      (pss_cons (ps_asg (pe_call (ok__law_sizes T) (hr.mono (by decide)) rfl T._law_sizes.g T._law_sizes.F.kp T._law_sizes.B .nil pass0 (pa_cons (pv 1) pa_nil)) (pg_tup rfl (pgs_cons (pg_name (i := 2) nd rfl (by first | exact .inl rfl | exact .inr rfl)) (pgs_cons (pg_name (i := 3) nd rfl (by first | exact .inl rfl | exact .inr rfl)) pgs_nil))))
      (pss_cons (ps_set (i := 4) nd rfl (by first | exact .inl rfl | exact .inr rfl) (pe_call (ok__law_three T) (hr.mono (by decide)) rfl T._law_three.g T._law_three.F.kp T._law_three.B .nil pass0 (pa_cons (pv 1) (pa_cons (pv 2) (pa_cons (pv 3) pa_nil)))))
      (pss_cons (ps_set (i := 5) nd rfl (by first | exact .inl rfl | exact .inr rfl) (pe_ix (r := rIxL K) ix_list (pe_call (ok__law_of T) (hr.mono (by decide)) rfl T._law_of.g T._law_of.F.kp T._law_of.B .nil pass0 (pa_cons (pe_ix (r := rIxL K) ix_list (pv 4) pe_int (fun _ _ => rfl)) pa_nil)) pe_int (fun _ _ => rfl)))
      (pss_cons (ps_set (i := 6) nd rfl (by first | exact .inl rfl | exact .inr rfl) (pe_call (ok__law_tables T) (hr.mono (by decide)) rfl T._law_tables.g T._law_tables.F.kp T._law_tables.B .nil pass0 (pa_cons (pv 5) (pa_cons (pv 4) pa_nil))))
      (pss_cons (ps_set (i := 7) nd rfl (by first | exact .inl rfl | exact .inr rfl) (pe_call (ok_table_of_three T) (hr.mono (by decide)) rfl T.table_of_three.g T.table_of_three.F.kp T.table_of_three.B .nil pass0 (pa_cons (pe_ix (r := rIxL K) ix_list (pv 4) pe_int (fun _ _ => rfl)) (pa_cons (pe_ix (r := rIxL K) ix_list (pv 4) pe_int (fun _ _ => rfl)) (pa_cons (pe_ix (r := rIxL K) ix_list (pv 4) pe_int (fun _ _ => rfl)) pa_nil)))))
      (pss_cons (ps_set (i := 8) nd rfl (by first | exact .inl rfl | exact .inr rfl) (pe_call (ok_all_different T) (hr.mono (by decide)) rfl T.all_different.g T.all_different.F.kp T.all_different.B .nil pass0 (pa_cons (pe_ix (r := rIxL K) ix_list (pv 4) pe_int (fun _ _ => rfl)) (pa_cons (pe_ix (r := rIxL K) ix_list (pv 4) pe_int (fun _ _ => rfl)) (pa_cons (pe_ix (r := rIxL K) ix_list (pv 4) pe_int (fun _ _ => rfl)) pa_nil)))))
      (pss_cons (ps_if (pt_not (pt_truth (pv 6) (by intro _; rfl))) (pss_one (ps_ret (pe_and (pe_cmpR op_isN (pv 7) pe_non (nomark _)) (pe_one (pe_cmpR op_isN (pv 8) pe_non (nomark _)))))) pss_nil)
      (pss_cons (ps_if (PW.pt (pw_or (pt_not (pt_val (pe_callB (r := rIsi K) call_isi (by rfl) T.n_isinstance (by decide +kernel) (pa_cons (pv 7) (pa_cons (pe_bltn (v := .ty "tuple") (by rfl) T.n_tuple (by decide +kernel) rfl) pa_nil))))) (pw_or1 (pt_cmpR op_ne (pe_callB (r := rLen K) call_len_seq (by rfl) T.n_len (by decide +kernel) (pa_cons (pv 7) pa_nil)) pe_int (nomark _))))) (pss_one (ps_ret pe_bl)) pss_nil)
      (pss_cons (ps_for PassesOwn.never rfl (pi_range1 (by rfl) T.n_range (pa_cons pe_int pa_nil)) (pg_name (i := 9) nd rfl (by first | exact .inl rfl | exact .inr rfl))
        (pss_cons (ps_set (i := 10) nd rfl (by first | exact .inl rfl | exact .inr rfl) (pe_ix (r := rIxT K) ix_tup (pv 7) (pv 9) (fun _ _ => rfl)))
        (pss_cons (ps_if (PW.pt (pw_or (pt_not (pt_val (pe_callB (r := rIsi K) call_isi (by rfl) T.n_isinstance (by decide +kernel) (pa_cons (pv 10) (pa_cons (pe_bltn (v := .ty "tuple") (by rfl) T.n_tuple (by decide +kernel) rfl) pa_nil))))) (pw_or1 (pt_not (pt_val (pe_callB (r := rAll K) (cr_all rfl) (by rfl) T.n_all (by decide +kernel) (pa_cons (pe_lc (own := [("_law_item", 13)]) (g := gName 13) (tt := tYes) rfl nd (pi_tup (pv 10)) (blkOk_by (by kernel_rfl)) (fun _ _ _ _ _ => (pg_name (i := 13) nd rfl (by first | exact .inl rfl | exact .inr rfl))) (fun _ _ _ _ _ => pts_nil) (fun _ _ _ _ _ => (pe_and (pe_call (ok__law_is_integer T) (hr.mono (by decide)) rfl T._law_is_integer.g T._law_is_integer.F.kp T._law_is_integer.B .nil pass0 (pa_cons (pv 13) pa_nil)) (pe_one (pe_chain op_le op_lt pe_int (pv 13) (pv 2)))))) pa_nil))))))) (pss_one (ps_ret pe_bl)) pss_nil)
        (pss_one (ps_if (PW.pt (pw_or (pt_cmpR op_ne (pe_callB (r := rLen K) call_len_seq (by rfl) T.n_len (by decide +kernel) (pa_cons (pv 10) pa_nil)) (pv 3) (nomark _)) (pw_or1 (pt_cmpR (r := rNeD K) (op_neD hr.units) (pe_call (ok__law_count T) (hr.mono (by decide)) rfl T._law_count.g T._law_count.F.kp T._law_count.B .nil pass0 (pa_cons (pv 10) (pa_cons (pv 2) pa_nil))) (pe_ix (r := rIxL K) ix_list (pv 4) (pv 9) (fun _ _ => rfl)) (nomark _))))) (pss_one (ps_ret pe_bl)) pss_nil)))))
      (pss_cons (ps_for PassesOwn.never rfl (pi_list (pe_lst (pa_cons (pe_tup (pa_cons pe_int (pa_cons pe_int pa_nil))) (pa_cons (pe_tup (pa_cons pe_int (pa_cons pe_int pa_nil))) (pa_cons (pe_tup (pa_cons pe_int (pa_cons pe_int pa_nil))) pa_nil))))) (pg_tup rfl (pgs_cons (pg_name (i := 11) nd rfl (by first | exact .inl rfl | exact .inr rfl)) (pgs_cons (pg_name (i := 12) nd rfl (by first | exact .inl rfl | exact .inr rfl)) pgs_nil)))
        (pss_one (ps_if (pt_not (pt_val (pe_call (ok__law_least T) (hr.mono (by decide)) rfl T._law_least.g T._law_least.F.kp T._law_least.B .nil pass0 (pa_cons (pe_ix (r := rIxT K) ix_tup (pv 7) (pv 11) (fun _ _ => rfl)) (pa_cons (pe_ix (r := rIxL K) ix_list (pv 4) (pv 11) (fun _ _ => rfl)) (pa_cons (pe_ix (r := rIxT K) ix_tup (pv 7) (pv 12) (fun _ _ => rfl)) (pa_cons (pe_ix (r := rIxL K) ix_list (pv 4) (pv 12) (fun _ _ => rfl)) pa_nil))))))) (pss_one (ps_ret pe_bl)) pss_nil)))
      (pss_cons (ps_if (pt_not (pt_val (pe_call (ok__law_equal T) (hr.mono (by decide)) rfl T._law_equal.g T._law_equal.F.kp T._law_equal.B .nil pass0 (pa_cons (pv 8) (pa_cons (pe_call (ok__law_different T) (hr.mono (by decide)) rfl T._law_different.g T._law_different.F.kp T._law_different.B .nil pass0 (pa_cons (pe_ix (r := rIxT K) ix_tup (pv 7) pe_int (fun _ _ => rfl)) (pa_cons (pe_ix (r := rIxT K) ix_tup (pv 7) pe_int (fun _ _ => rfl)) (pa_cons (pe_ix (r := rIxT K) ix_tup (pv 7) pe_int (fun _ _ => rfl)) pa_nil)))) pa_nil))))) (pss_one (ps_ret pe_bl)) pss_nil)
      (pss_one (ps_ret (pe_callB (r := rAll K) (cr_all rfl) (by rfl) T.n_all (by decide +kernel) (pa_cons (pe_lc (own := [("_law_row", 10)]) (g := gName 10) (tt := tYes) rfl nd (pi_list (pv 6)) (blkOk_by (by kernel_rfl)) (fun _ _ _ _ _ => (pg_name (i := 10) nd rfl (by first | exact .inl rfl | exact .inr rfl))) (fun _ _ _ _ _ => pts_nil) (fun _ _ _ _ _ => (pe_cmpR op_eq (pe_call (ok__law_different T) (hr.mono (by decide)) rfl T._law_different.g T._law_different.F.kp T._law_different.B .nil pass0 (pa_cons (pe_ix (r := rIxT K) ix_tup (pv 10) pe_int (fun _ _ => rfl)) (pa_cons (pe_ix (r := rIxT K) ix_tup (pv 10) pe_int (fun _ _ => rfl)) (pa_cons (pe_ix (r := rIxT K) ix_tup (pv 10) pe_int (fun _ _ => rfl)) pa_nil)))) (pv 8) (nomark _)))) pa_nil)))))))))))))))), ?_⟩
    refine ⟨.ref l, rfl, l, ns, rfl, hl, fun st sc H1 e1 hs1 n1 => ?_⟩
    refine ⟨.ref st, rfl, st, sc, rfl, hs1, fun k n v H2 kp2 hs2 hv sz => ?_⟩
    obtain ⟨pv2, rfl, hp2⟩ := hv
    have k5 := sz.2.1
    have n4 := sz.2.2.1
    refine ⟨pv2, [.int (k : Int), .int (n : Int)], rfl, SqT.of hp2, rfl, _, [.int (n : Int)], rfl, _, [], rfl, rfl, ?_⟩
    refine ⟨.ref st, rfl, .int (k : Int), rfl, .int (n : Int), rfl, st, sc, k, n, rfl, hs2, sz.1, k5, n4, fun a b c l3 x y z H3 kp3 h3 tx ty tz ax ay az => ?_⟩
    have t3 : T3 l3 x y z a b c k n H3 := ⟨h3, tx, ty, tz, ax, ay, az, sz⟩
    refine ⟨.ref l3, rfl, l3, _, _, x, rfl, rfl, SqL.of t3.at_, atI_nat (j := 0) rfl, x, a, k, n, rfl, tx, ax, sz, fun f us H4 e4 nf hf ef => ?_⟩
    obtain ⟨one, ho0, ho⟩ := of_some ax
    obtain ⟨v1, hv1, t1⟩ := ef.get ho0
    refine ⟨f, us, 0, v1, rfl, rfl, SqL.of hf, atI_nat (j := 0) hv1, ?_⟩
    refine ⟨v1, rfl, .ref l3, rfl, v1, l3, x, y, z, one, a, b, c, k, n, rfl, t1, t3.mono e4, (mem_ofL ho).1, fun g gs H5 e5 hg eg => ?_⟩
    have t5 := (t3.mono e4).mono e5
    have A5 : A3 x y z a b c k (n : Int) H5 := ⟨t5.ha, t5.hb, t5.hc, ax, ay, az, sz.1, k5, by omega⟩
    by_cases hm : (n : Int) < (medL k a b c).sum
    · -- no table
      have hle : ¬ (medL k a b c).sum ≤ (n : Int) := by omega
      refine ⟨.ref l3, rfl, l3, _, _, x, rfl, rfl, SqL.of t5.at_, atI_nat (j := 0) rfl, .ref l3, rfl, l3, _, _, y, rfl, rfl, SqL.of t5.at_, atI_nat (j := 1) rfl, .ref l3, rfl, l3, _, _, z, rfl, rfl, SqL.of t5.at_, atI_nat (j := 2) rfl,
        x, y, z, a, b, c, k, (n : Int), rfl, A5, fun _ H6 e6 => ?_, fun h => absurd h hle⟩
      have t6 := t5.mono e6
      refine ⟨.ref l3, rfl, l3, _, _, x, rfl, rfl, SqL.of t6.at_, atI_nat (j := 0) rfl, .ref l3, rfl, l3, _, _, y, rfl, rfl, SqL.of t6.at_, atI_nat (j := 1) rfl, .ref l3, rfl, l3, _, _, z, rfl, rfl, SqL.of t6.at_, atI_nat (j := 2) rfl,
        x, y, z, a, b, c, k, (n : Int), rfl, A5.mono e6, fun _ H7 e7 => ?_, fun h => absurd h hle⟩
      have e0 : tabL k n one a b c = [] := by
        cases e : tabL k n one a b c with
        | nil => rfl
        | cons p r =>
          have := (tab_listed ho (s := p.1) (t := p.2) (by rw [e]; exact List.mem_cons_self)).1.small
          exact absurd this hle
      have eg0 : gs = [] := by
        rw [e0] at eg
        cases eg
        rfl
      subst eg0
      refine ⟨.ref g, rfl, false, .inl ⟨[], SqL.of (e7 _ _ (e6 _ _ hg)), rfl⟩, iteT ?_⟩
      exact ⟨.non, rfl, rfl, true, rfl, iteT ⟨.non, rfl, rfl, q H7⟩⟩
    · have hle : (medL k a b c).sum ≤ (n : Int) := by omega
      have td := tab_dealt ax ay az hle
      refine ⟨.ref l3, rfl, l3, _, _, x, rfl, rfl, SqL.of t5.at_, atI_nat (j := 0) rfl, .ref l3, rfl, l3, _, _, y, rfl, rfl, SqL.of t5.at_, atI_nat (j := 1) rfl, .ref l3, rfl, l3, _, _, z, rfl, rfl, SqL.of t5.at_, atI_nat (j := 2) rfl,
        x, y, z, a, b, c, k, (n : Int), rfl, A5, fun h => absurd h hm, fun _ vt H6 e6 ht => ?_⟩
      have t6 := t5.mono e6
      refine ⟨.ref l3, rfl, l3, _, _, x, rfl, rfl, SqL.of t6.at_, atI_nat (j := 0) rfl, .ref l3, rfl, l3, _, _, y, rfl, rfl, SqL.of t6.at_, atI_nat (j := 1) rfl, .ref l3, rfl, l3, _, _, z, rfl, rfl, SqL.of t6.at_, atI_nat (j := 2) rfl,
        x, y, z, a, b, c, k, (n : Int), rfl, A5.mono e6, fun h => absurd h hm, fun _ H7 e7 => ?_⟩
      have t7 := t6.mono e7
      obtain ⟨tp, cs, rfl, htp, ecs⟩ := ht
      have htp := e7 _ _ htp
      match cs, ecs, htp with
      | [_, _, _], .cons ⟨p0, rfl, h0⟩ (.cons ⟨p1, rfl, h1⟩ (.cons ⟨p2, rfl, h2⟩ .nil)), htp =>
        have h0 := e7 _ _ h0
        have h1 := e7 _ _ h1
        have h2 := e7 _ _ h2
        have hg7 := e7 _ _ (e6 _ _ hg)
        -- what is known at a place
        have row : ∀ i, i < 3 → TI (pk (col 0 (dlT k a b c)) (col 1 (dlT k a b c)) (col 2 (dlT k a b c)) i) (.ref (pk p0 p1 p2 i)) H7 ∧ TI (pk a b c i) (pk x y z i) H7 ∧ (pk (col 0 (dlT k a b c)) (col 1 (dlT k a b c)) (col 2 (dlT k a b c)) i).length = n ∧
            (∀ u ∈ pk (col 0 (dlT k a b c)) (col 1 (dlT k a b c)) (col 2 (dlT k a b c)) i, Lm.Rng k u) ∧ cntL k (pk (col 0 (dlT k a b c)) (col 1 (dlT k a b c)) (col 2 (dlT k a b c)) i) = pk a b c i ∧ (pk a b c i).length = k := fun i hi => by
          have ll : ∀ j, (col j (dlT k a b c)).length = n := fun j => by
            unfold col
            rw [List.length_map, td.len]
          match i, hi with
          | 0, _ => exact ⟨⟨p0, rfl, h0⟩, t7.ha, ll 0, fun u hu => by
              obtain ⟨t, ht, rfl⟩ := List.mem_map.mp hu
              exact (td.ink t ht).1, td.cA, ax.1⟩
          | 1, _ => exact ⟨⟨p1, rfl, h1⟩, t7.hb, ll 1, fun u hu => by
              obtain ⟨t, ht, rfl⟩ := List.mem_map.mp hu
              exact (td.ink t ht).2.1, td.cB, ay.1⟩
          | 2, _ => exact ⟨⟨p2, rfl, h2⟩, t7.hc, ll 2, fun u hu => by
              obtain ⟨t, ht, rfl⟩ := List.mem_map.mp hu
              exact (td.ink t ht).2.2, td.cC, az.1⟩
        have gne : gs.isEmpty = false := by
          cases gs with
          | nil =>
            have := eg.len
            exact absurd (List.length_eq_zero_iff.mp this) (tab_lists ho td)
          | cons _ _ => rfl
        refine ⟨.ref g, rfl, true, .inl ⟨gs, SqL.of hg7, by rw [gne]; rfl⟩, iteF ?_⟩
        -- told is a tuple of three
        refine ⟨.ref tp, rfl, .ref tp, .ty "tuple", _, _, true, rfl, .ty "tuple", .base (.tup htp), kit_ty (by decide +kernel), true, rfl, iteF ⟨.ref tp, rfl, tp, _, rfl, .inr (SqT.of htp), rfl, false, rfl, iteF ?_⟩⟩
        refine ⟨3, rfl, by decide, by decide, ?_⟩
        refine for_it (walk_range (lo := 0) (n := 3)) (fun i σ H' => ∃ s9 s10, σ = [some (.ref l), some (.ref st), some (.int (k : Int)), some (.int (n : Int)), some (.ref l3), some v1, some (.ref g), some (.ref tp), some (.int ((n : Int) - (medL k a b c).sum)), s9, s10, none, none, none] ∧ Same H7 H')
          ⟨_, _, rfl, Same.refl _⟩ (fun _ _ _ _ _ => trivial) (fun i v σ H8 H8' hi pv yl => ?_) fun σ H8 pv => ?_
        · obtain ⟨s9, s10, rfl, e8⟩ := pv
          obtain ⟨rfl, ev⟩ := yl
          have ev : v = .int (i : Nat) := ev.trans (congrArg V.int (Int.zero_add _))
          subst ev
          obtain ⟨⟨_, er, hp⟩, tx, rl, rr, rc, al⟩ := row i hi
          cases er
          have hp8 := e8 _ _ hp
          refine ⟨.ref tp, rfl, .int (i : Nat), rfl, tp, _, _, .ref (pk p0 p1 p2 i), rfl, rfl, SqT.of (e8 _ _ htp), atI_nat ?_, ?_⟩
          · match i, hi with
            | 0, _ => rfl
            | 1, _ => rfl
            | 2, _ => rfl
          refine ⟨.ref (pk p0 p1 p2 i), rfl, .ref (pk p0 p1 p2 i), .ty "tuple", _, _, true, rfl, .ty "tuple", .base (.tup hp8), kit_ty (by decide +kernel), true, rfl, iteF ?_⟩
          refine ⟨.ref (pk p0 p1 p2 i), rfl, pk p0 p1 p2 i, rfl, ⟨_, SqT.of hp8⟩, fun D hD => ?_⟩
          refine lc_vals walk_tup hD (fun H' e => SqT.of (e _ _ hp8)) yat_same (fun _ => .bl true) (by rw [List.length_map]; omega) (fun _ => rfl) (fun j u H9 H9' hj e yl K1 k1 => ?_) fun H9 e9 hq9 => ?_
          · obtain ⟨rfl, hu⟩ := yl
            obtain ⟨m, hm', rfl⟩ := map_at hu
            obtain ⟨m0, m1⟩ := rr m (List.mem_of_getElem? hm')
            refine ⟨.int m, rfl, m, rfl, true, rfl, iteT ⟨.int m, rfl, 0, m, rfl, rfl, true, congrArg V.bl (decide_eq_true m0), iteT ⟨.int (k : Int), rfl, m, (k : Int), rfl, rfl, ?_⟩⟩⟩
            show K1 (.bl (decide (m < (k : Int)))) _
            rw [decide_eq_true m1]
            exact k1 _ (Same.refl _)
          · refine ⟨D, (List.range ((pk (col 0 (dlT k a b c)) (col 1 (dlT k a b c)) (col 2 (dlT k a b c)) i).map V.int).length).map (fun _ => true), rfl, SqL.of ?_, ?_⟩
            · rw [List.map_map]
              exact hq9
            have ea : ((List.range ((pk (col 0 (dlT k a b c)) (col 1 (dlT k a b c)) (col 2 (dlT k a b c)) i).map V.int).length).map (fun _ => true)).all id = true := by simp
            rw [ea]
            refine ⟨true, rfl, iteF ?_⟩
            have e79 := e8.trans e9
            refine ⟨.ref (pk p0 p1 p2 i), rfl, pk p0 p1 p2 i, _, rfl, .inr (SqT.of (e9 _ _ hp8)), .int (n : Int), rfl, rfl, false, ?_, iteF ?_⟩
            · rw [List.length_map, rl]
              simp
            refine ⟨.ref (pk p0 p1 p2 i), rfl, .int (k : Int), rfl, .ref (pk p0 p1 p2 i), _, k, rfl, ⟨_, rfl, e9 _ _ hp8⟩, by omega, by omega, fun v' H10 e10 hv' => ?_⟩
            refine ⟨.ref l3, rfl, .int (i : Nat), rfl, l3, _, _, pk x y z i, rfl, rfl, SqL.of (e10 _ _ (e79 _ _ t7.at_)), atI_nat (pk_at hi), ?_⟩
            refine ⟨_, _, dp_tup hv', dp_tup ((tx.mono e79).mono e10), shaped_tup _, shaped_tup _, false, ?_, iteF ⟨_, _, rfl, e79.trans e10⟩⟩
            rw [eqv_tup, rc, decide_eq_true rfl]
            rfl
        · obtain ⟨s9, s10, rfl, e8⟩ := pv
          -- the pairs
          refine ⟨by show 2 ≤ sizeLine; decide, fun u1 m1 => ⟨by show 2 ≤ sizeLine; decide, fun u2 m2 => ⟨by show 2 ≤ sizeLine; decide, fun u3 m3 => ⟨by show 3 ≤ sizeLine; decide, fun L nL => ?_⟩⟩⟩⟩
          have w1 := same_new (o := .tup [.int 0, .int 1]) m1
          have w2 := same_new (o := .tup [.int 0, .int 2]) m2
          have w3 := same_new (o := .tup [.int 1, .int 2]) m3
          have w4 := same_new (o := .lst [.ref u1, .ref u2, .ref u3]) nL
          have ww := ((w1.trans w2).trans w3).trans w4
          have pr : ∀ (j : Nat) (v : V), [V.ref u1, .ref u2, .ref u3][j]? = some v → ∃ (u : Addr) (i1 i2 : Nat), v = .ref u ∧ i1 < 3 ∧ i2 < 3 ∧ (upd (upd (upd (upd H8 u1 (.tup [.int 0, .int 1])) u2 (.tup [.int 0, .int 2])) u3 (.tup [.int 1, .int 2])) L (.lst [.ref u1, .ref u2, .ref u3])) u = some (.tup [.int (i1 : Nat), .int (i2 : Nat)]) ∧
              churn (pk (col 0 (dlT k a b c)) (col 1 (dlT k a b c)) (col 2 (dlT k a b c)) i1) (pk (col 0 (dlT k a b c)) (col 1 (dlT k a b c)) (col 2 (dlT k a b c)) i2) = trans (pk a b c i1) (pk a b c i2) := fun j v hv => by
            match j, hv with
            | 0, hv => exact ⟨u1, 0, 1, (Option.some.inj hv).symm, by decide, by decide, w4 _ _ (w3 _ _ (w2 _ _ upd_same)), td.n01⟩
            | 1, hv => exact ⟨u2, 0, 2, (Option.some.inj hv).symm, by decide, by decide, w4 _ _ (w3 _ _ upd_same), td.n02⟩
            | 2, hv => exact ⟨u3, 1, 2, (Option.some.inj hv).symm, by decide, by decide, w4 _ _ upd_same, td.n12⟩
            | j + 3, hv => simp at hv
          refine ⟨L, rfl, ⟨_, SqL.of upd_same⟩, ?_⟩
          refine for_it (walk_list (xs := [V.ref u1, .ref u2, .ref u3])) (fun j σ H' => ∃ s9 s10 s11 s12, σ = [some (.ref l), some (.ref st), some (.int (k : Int)), some (.int (n : Int)), some (.ref l3), some v1, some (.ref g), some (.ref tp), some (.int ((n : Int) - (medL k a b c).sum)), s9, s10, s11, s12, none] ∧
            Same (upd (upd (upd (upd H8 u1 (.tup [.int 0, .int 1])) u2 (.tup [.int 0, .int 2])) u3 (.tup [.int 1, .int 2])) L (.lst [.ref u1, .ref u2, .ref u3])) H')
            ⟨_, _, _, _, rfl, Same.refl _⟩ (fun _ _ _ _ pv => by obtain ⟨_, _, _, _, _, e⟩ := pv; exact SqL.of (e _ _ upd_same)) (fun j v σ H9 H9' hj pv yl => ?_) fun σ H9 pv => ?_
          · obtain ⟨s9, s10, s11, s12, rfl, e9⟩ := pv
            obtain ⟨rfl, hv⟩ := yl
            obtain ⟨u, i1, i2, rfl, hi1, hi2, hu, hch⟩ := pr j v hv
            have e79 := (e8.trans ww).trans e9
            obtain ⟨tp1, tx1, rl1, _, _, al1⟩ := row i1 hi1
            obtain ⟨tp2, tx2, rl2, _, _, al2⟩ := row i2 hi2
            have pat : ∀ i, i < 3 → ([V.ref p0, .ref p1, .ref p2] : List V)[i]? = some (.ref (pk p0 p1 p2 i)) := fun i hi => by
              match i, hi with
              | 0, _ => rfl
              | 1, _ => rfl
              | 2, _ => rfl
            refine ⟨u, [.int (i1 : Nat), .int (i2 : Nat)], rfl, SqT.of (e9 _ _ hu), rfl, _, [.int (i2 : Nat)], rfl, _, [], rfl, rfl, ?_⟩
            refine ⟨.ref tp, rfl, .int (i1 : Nat), rfl, tp, _, _, .ref (pk p0 p1 p2 i1), rfl, rfl, SqT.of (e79 _ _ htp), atI_nat (pat i1 hi1), .ref l3, rfl, .int (i1 : Nat), rfl, l3, _, _, pk x y z i1, rfl, rfl, SqL.of (e79 _ _ t7.at_), atI_nat (pk_at hi1),
              .ref tp, rfl, .int (i2 : Nat), rfl, tp, _, _, .ref (pk p0 p1 p2 i2), rfl, rfl, SqT.of (e79 _ _ htp), atI_nat (pat i2 hi2), .ref l3, rfl, .int (i2 : Nat), rfl, l3, _, _, pk x y z i2, rfl, rfl, SqL.of (e79 _ _ t7.at_), atI_nat (pk_at hi2),
              .ref (pk p0 p1 p2 i1), pk x y z i1, .ref (pk p0 p1 p2 i2), pk x y z i2, _, _, _, _, rfl, tp1.mono e79, tx1.mono e79, tp2.mono e79, tx2.mono e79, by rw [rl1, rl2], by omega, by rw [al1, al2], by omega, fun H10 e10 => ⟨true, congrArg V.bl (decide_eq_true hch), iteF ⟨_, _, _, _, rfl, e9.trans e10⟩⟩⟩
          · obtain ⟨s9, s10, s11, s12, rfl, e9⟩ := pv
            have e79 := (e8.trans ww).trans e9
            obtain ⟨tp0, _, rl0, _, _, _⟩ := row 0 (by decide)
            obtain ⟨tp1, _, rl1, _, _, _⟩ := row 1 (by decide)
            obtain ⟨tp2, _, rl2, _, _, _⟩ := row 2 (by decide)
            -- the number
            refine ⟨.int ((n : Int) - (medL k a b c).sum), rfl, .ref tp, rfl, tp, _, _, .ref p0, rfl, rfl, SqT.of (e79 _ _ htp), atI_nat (j := 0) rfl, .ref tp, rfl, tp, _, _, .ref p1, rfl, rfl, SqT.of (e79 _ _ htp), atI_nat (j := 1) rfl, .ref tp, rfl, tp, _, _, .ref p2, rfl, rfl, SqT.of (e79 _ _ htp), atI_nat (j := 2) rfl,
              .ref p0, .ref p1, .ref p2, col 0 (dlT k a b c), col 1 (dlT k a b c), col 2 (dlT k a b c), rfl, tp0.mono e79, tp1.mono e79, tp2.mono e79, rl0.trans rl1.symm, rl0.trans rl2.symm, by have : (col 0 (dlT k a b c)).length = n := rl0; omega, fun H10 e10 => ?_⟩
            refine ⟨_, _, rfl, true, congrArg V.bl (decide_eq_true td.diff.symm), iteF ?_⟩
            have e710 := e79.trans e10
            -- all tables alike
            refine ⟨.ref g, rfl, g, rfl, ⟨_, SqL.of (e710 _ _ hg7)⟩, fun D hD => ?_⟩
            have lgs : gs.length ≤ 100000 := by
              have h1 := eg.len
              have h2 : (tabL k n one a b c).length ≤ _ := flat_le (tabO k n one a b c) 81 (fun s => by
                unfold tabO
                split
                · exact Nat.le_trans (flat_le _ 1 (fun t => tabI_step one a c b s t) _) (by have := ofL_len sz c; omega)
                · exact Nat.zero_le _) (ofL k n b)
              have h3 := ofL_len sz b
              have h4 : (ofL k n b).length * 81 ≤ 81 * 81 := Nat.mul_le_mul_right 81 h3
              omega
            refine lc_vals walk_list hD (fun H' e => SqL.of (e _ _ (e710 _ _ hg7))) yat_same (fun _ => .bl true) lgs (fun _ => rfl) (fun j u H11 H11' hj e yl K1 k1 => ?_) fun H11 e11 hq11 => ?_
            · obtain ⟨rfl, hu⟩ := yl
              obtain ⟨⟨s, t⟩, hst, rt⟩ := eg.getV hu
              obtain ⟨tb, ls, lt', e0', e1', e2'⟩ := tab_listed ho (List.mem_of_getElem? hst)
              obtain ⟨pp, ds, rfl, hpp, ecc⟩ := rt
              have e511 := (e6.trans e7).trans (e710.trans e)
              match ds, ecc, hpp with
              | [d0, d1, d2], .cons c0 (.cons c1 (.cons c2 .nil)), hpp =>
                have hpp := e511 _ _ hpp
                refine ⟨.ref pp, rfl, pp, _, _, d0, rfl, rfl, SqT.of hpp, atI_nat (j := 0) rfl, .ref pp, rfl, pp, _, _, d1, rfl, rfl, SqT.of hpp, atI_nat (j := 1) rfl, .ref pp, rfl, pp, _, _, d2, rfl, rfl, SqT.of hpp, atI_nat (j := 2) rfl,
                  d0, d1, d2, one, s, t, rfl, c0.mono e511, c1.mono e511, c2.mono e511, by rw [(mem_ofL ho).1, ls], by rw [(mem_ofL ho).1, lt'], by have := (mem_ofL ho).1; omega, fun H12 e12 => ⟨.int ((n : Int) - (medL k a b c).sum), rfl, rfl, ?_⟩⟩
                have dd := tb.diff
                rw [e0', e1', e2'] at dd
                rw [ne_int, dd, decide_eq_true rfl]
                exact k1 _ e12
            · refine ⟨D, (List.range gs.length).map (fun _ => true), rfl, SqL.of ?_, ?_⟩
              · rw [List.map_map]
                exact hq11
              have ea : ((List.range gs.length).map (fun _ => true)).all id = true := by simp
              rw [ea]
              exact q H11
end
end LmW
/-! the end. -/
namespace LmW
open PySem PySem.Spec PyProof.Rows L2
def defn_mk {K : PySem.W.Frag} {h : Heap} {mg : Str → Option Value} {f : Addr} (X : K.In h) (G : h.Ns mainGlobals mg) (x : Str) (st : Stmt) (ps : List Str) {oc : Value} {od an : Option Addr} {osl : Array (Option Value)} {kV doc pm cdv ct : Value}
    (a : PySem.W.nsIn K mainGlobals x = some (some (.ref f))) (l : K.lookup f = some ⟨oc, od, .func (PySem.W.fnOf x x (defArgs st) (defBody st) (defScope st) .none kV doc pm an cdv ct), osl⟩) (c : PySem.W.codeIn K cdv x = true) (k : PySem.W.keepIn K (.ref f) = true)
    (b : ∀ (kV doc pm : Value) (an : Option Addr) (cdv ct : Value) (us : List Value), us.length = ps.length → bindArgs (PySem.W.fnOf x x (defArgs st) (defBody st) (defScope st) .none kV doc pm an cdv ct) ⟨us, []⟩ = pure (ps.zip us)) : Defn K mg x st ps :=
  { f := f, fd := _, F := fun_mk l c k, B := (fun_mk l c k).binds b, g := PySem.W.mg_of X G a }
theorem all_mk {l : PySem.W.OpenLaw} {w : World} {K : PySem.W.Frag} {h : Heap} {mg : Str → Option Value} {fa f1 f2 f3 f4 f5 f6 f7 f8 f9 f10 f11 f12 f13 f14 f15 f16 f17 f18 f19 f20 f21 f22 f23 f24 f25 f26 f27 f28 f29 f30 f31 f32 f33 f34 : Addr} (X : K.In h) (G : h.Ns mainGlobals mg) (hfa : mg "law" = some (.ref fa))
    {od1 an1 od2 an2 od3 an3 od4 an4 od5 an5 od6 an6 od7 an7 od8 an8 od9 an9 od10 an10 od11 an11 od12 an12 od13 an13 od14 an14 od15 an15 od16 an16 od17 an17 od18 an18 od19 an19 od20 an20 od21 an21 od22 an22 od23 an23 od24 an24 od25 an25 od26 an26 od27 an27 od28 an28 od29 an29 od30 an30 od31 an31 od32 an32 od33 an33 od34 an34 : Option Addr} {sl1 sl2 sl3 sl4 sl5 sl6 sl7 sl8 sl9 sl10 sl11 sl12 sl13 sl14 sl15 sl16 sl17 sl18 sl19 sl20 sl21 sl22 sl23 sl24 sl25 sl26 sl27 sl28 sl29 sl30 sl31 sl32 sl33 sl34 : Array (Option Value)}
    {oc1 kV1 dc1 pm1 cd1 ct1 oc2 kV2 dc2 pm2 cd2 ct2 oc3 kV3 dc3 pm3 cd3 ct3 oc4 kV4 dc4 pm4 cd4 ct4 oc5 kV5 dc5 pm5 cd5 ct5 oc6 kV6 dc6 pm6 cd6 ct6 oc7 kV7 dc7 pm7 cd7 ct7 oc8 kV8 dc8 pm8 cd8 ct8 oc9 kV9 dc9 pm9 cd9 ct9 oc10 kV10 dc10 pm10 cd10 ct10 oc11 kV11 dc11 pm11 cd11 ct11 oc12 kV12 dc12 pm12 cd12 ct12 oc13 kV13 dc13 pm13 cd13 ct13 oc14 kV14 dc14 pm14 cd14 ct14 oc15 kV15 dc15 pm15 cd15 ct15 oc16 kV16 dc16 pm16 cd16 ct16 oc17 kV17 dc17 pm17 cd17 ct17 oc18 kV18 dc18 pm18 cd18 ct18 oc19 kV19 dc19 pm19 cd19 ct19 oc20 kV20 dc20 pm20 cd20 ct20 oc21 kV21 dc21 pm21 cd21 ct21 oc22 kV22 dc22 pm22 cd22 ct22 oc23 kV23 dc23 pm23 cd23 ct23 oc24 kV24 dc24 pm24 cd24 ct24 oc25 kV25 dc25 pm25 cd25 ct25 oc26 kV26 dc26 pm26 cd26 ct26 oc27 kV27 dc27 pm27 cd27 ct27 oc28 kV28 dc28 pm28 cd28 ct28 oc29 kV29 dc29 pm29 cd29 ct29 oc30 kV30 dc30 pm30 cd30 ct30 oc31 kV31 dc31 pm31 cd31 ct31 oc32 kV32 dc32 pm32 cd32 ct32 oc33 kV33 dc33 pm33 cd33 ct33 oc34 kV34 dc34 pm34 cd34 ct34 : Value}
    {t0 t1 t2 t3 : Tok}
    (a1 : PySem.W.nsIn K mainGlobals "is_whole" = some (some (.ref f1))) (l1 : K.lookup f1 = some ⟨oc1, od1, .func (PySem.W.fnOf "is_whole" "is_whole" (defArgs s_is_whole) (defBody s_is_whole) (defScope s_is_whole) .none kV1 dc1 pm1 an1 cd1 ct1), sl1⟩) (c1 : PySem.W.codeIn K cd1 "is_whole" = true) (k1 : PySem.W.keepIn K (.ref f1) = true)
    (a2 : PySem.W.nsIn K mainGlobals "is_between" = some (some (.ref f2))) (l2 : K.lookup f2 = some ⟨oc2, od2, .func (PySem.W.fnOf "is_between" "is_between" (defArgs s_is_between) (defBody s_is_between) (defScope s_is_between) .none kV2 dc2 pm2 an2 cd2 ct2), sl2⟩) (c2 : PySem.W.codeIn K cd2 "is_between" = true) (k2 : PySem.W.keepIn K (.ref f2) = true)
    (a3 : PySem.W.nsIn K mainGlobals "is_allocation" = some (some (.ref f3))) (l3 : K.lookup f3 = some ⟨oc3, od3, .func (PySem.W.fnOf "is_allocation" "is_allocation" (defArgs s_is_allocation) (defBody s_is_allocation) (defScope s_is_allocation) .none kV3 dc3 pm3 an3 cd3 ct3), sl3⟩) (c3 : PySem.W.codeIn K cd3 "is_allocation" = true) (k3 : PySem.W.keepIn K (.ref f3) = true)
    (a4 : PySem.W.nsIn K mainGlobals "check_allocation" = some (some (.ref f4))) (l4 : K.lookup f4 = some ⟨oc4, od4, .func (PySem.W.fnOf "check_allocation" "check_allocation" (defArgs s_check_allocation) (defBody s_check_allocation) (defScope s_check_allocation) .none kV4 dc4 pm4 an4 cd4 ct4), sl4⟩) (c4 : PySem.W.codeIn K cd4 "check_allocation" = true) (k4 : PySem.W.keepIn K (.ref f4) = true)
    (a5 : PySem.W.nsIn K mainGlobals "check_alike" = some (some (.ref f5))) (l5 : K.lookup f5 = some ⟨oc5, od5, .func (PySem.W.fnOf "check_alike" "check_alike" (defArgs s_check_alike) (defBody s_check_alike) (defScope s_check_alike) .none kV5 dc5 pm5 an5 cd5 ct5), sl5⟩) (c5 : PySem.W.codeIn K cd5 "check_alike" = true) (k5 : PySem.W.keepIn K (.ref f5) = true)
    (a6 : PySem.W.nsIn K mainGlobals "medians" = some (some (.ref f6))) (l6 : K.lookup f6 = some ⟨oc6, od6, .func (PySem.W.fnOf "medians" "medians" (defArgs s_medians) (defBody s_medians) (defScope s_medians) .none kV6 dc6 pm6 an6 cd6 ct6), sl6⟩) (c6 : PySem.W.codeIn K cd6 "medians" = true) (k6 : PySem.W.keepIn K (.ref f6) = true)
    (a7 : PySem.W.nsIn K mainGlobals "is_some_allocation" = some (some (.ref f7))) (l7 : K.lookup f7 = some ⟨oc7, od7, .func (PySem.W.fnOf "is_some_allocation" "is_some_allocation" (defArgs s_is_some_allocation) (defBody s_is_some_allocation) (defScope s_is_some_allocation) .none kV7 dc7 pm7 an7 cd7 ct7), sl7⟩) (c7 : PySem.W.codeIn K cd7 "is_some_allocation" = true) (k7 : PySem.W.keepIn K (.ref f7) = true)
    (a8 : PySem.W.nsIn K mainGlobals "check_like" = some (some (.ref f8))) (l8 : K.lookup f8 = some ⟨oc8, od8, .func (PySem.W.fnOf "check_like" "check_like" (defArgs s_check_like) (defBody s_check_like) (defScope s_check_like) .none kV8 dc8 pm8 an8 cd8 ct8), sl8⟩) (c8 : PySem.W.codeIn K cd8 "check_like" = true) (k8 : PySem.W.keepIn K (.ref f8) = true)
    (a9 : PySem.W.nsIn K mainGlobals "check_three" = some (some (.ref f9))) (l9 : K.lookup f9 = some ⟨oc9, od9, .func (PySem.W.fnOf "check_three" "check_three" (defArgs s_check_three) (defBody s_check_three) (defScope s_check_three) .none kV9 dc9 pm9 an9 cd9 ct9), sl9⟩) (c9 : PySem.W.codeIn K cd9 "check_three" = true) (k9 : PySem.W.keepIn K (.ref f9) = true)
    (a10 : PySem.W.nsIn K mainGlobals "extra" = some (some (.ref f10))) (l10 : K.lookup f10 = some ⟨oc10, od10, .func (PySem.W.fnOf "extra" "extra" (defArgs s_extra) (defBody s_extra) (defScope s_extra) .none kV10 dc10 pm10 an10 cd10 ct10), sl10⟩) (c10 : PySem.W.codeIn K cd10 "extra" = true) (k10 : PySem.W.keepIn K (.ref f10) = true)
    (a11 : PySem.W.nsIn K mainGlobals "repeated" = some (some (.ref f11))) (l11 : K.lookup f11 = some ⟨oc11, od11, .func (PySem.W.fnOf "repeated" "repeated" (defArgs s_repeated) (defBody s_repeated) (defScope s_repeated) .none kV11 dc11 pm11 an11 cd11 ct11), sl11⟩) (c11 : PySem.W.codeIn K cd11 "repeated" = true) (k11 : PySem.W.keepIn K (.ref f11) = true)
    (a12 : PySem.W.nsIn K mainGlobals "twice_at" = some (some (.ref f12))) (l12 : K.lookup f12 = some ⟨oc12, od12, .func (PySem.W.fnOf "twice_at" "twice_at" (defArgs s_twice_at) (defBody s_twice_at) (defScope s_twice_at) .none kV12 dc12 pm12 an12 cd12 ct12), sl12⟩) (c12 : PySem.W.codeIn K cd12 "twice_at" = true) (k12 : PySem.W.keepIn K (.ref f12) = true)
    (a13 : PySem.W.nsIn K mainGlobals "single_at" = some (some (.ref f13))) (l13 : K.lookup f13 = some ⟨oc13, od13, .func (PySem.W.fnOf "single_at" "single_at" (defArgs s_single_at) (defBody s_single_at) (defScope s_single_at) .none kV13 dc13 pm13 an13 cd13 ct13), sl13⟩) (c13 : PySem.W.codeIn K cd13 "single_at" = true) (k13 : PySem.W.keepIn K (.ref f13) = true)
    (a14 : PySem.W.nsIn K mainGlobals "with_single" = some (some (.ref f14))) (l14 : K.lookup f14 = some ⟨oc14, od14, .func (PySem.W.fnOf "with_single" "with_single" (defArgs s_with_single) (defBody s_with_single) (defScope s_with_single) .none kV14 dc14 pm14 an14 cd14 ct14), sl14⟩) (c14 : PySem.W.codeIn K cd14 "with_single" = true) (k14 : PySem.W.keepIn K (.ref f14) = true)
    (a15 : PySem.W.nsIn K mainGlobals "dealt" = some (some (.ref f15))) (l15 : K.lookup f15 = some ⟨oc15, od15, .func (PySem.W.fnOf "dealt" "dealt" (defArgs s_dealt) (defBody s_dealt) (defScope s_dealt) .none kV15 dc15 pm15 an15 cd15 ct15), sl15⟩) (c15 : PySem.W.codeIn K cd15 "dealt" = true) (k15 : PySem.W.keepIn K (.ref f15) = true)
    (a16 : PySem.W.nsIn K mainGlobals "table_of_three" = some (some (.ref f16))) (l16 : K.lookup f16 = some ⟨oc16, od16, .func (PySem.W.fnOf "table_of_three" "table_of_three" (defArgs s_table_of_three) (defBody s_table_of_three) (defScope s_table_of_three) .none kV16 dc16 pm16 an16 cd16 ct16), sl16⟩) (c16 : PySem.W.codeIn K cd16 "table_of_three" = true) (k16 : PySem.W.keepIn K (.ref f16) = true)
    (a17 : PySem.W.nsIn K mainGlobals "all_different" = some (some (.ref f17))) (l17 : K.lookup f17 = some ⟨oc17, od17, .func (PySem.W.fnOf "all_different" "all_different" (defArgs s_all_different) (defBody s_all_different) (defScope s_all_different) .none kV17 dc17 pm17 an17 cd17 ct17), sl17⟩) (c17 : PySem.W.codeIn K cd17 "all_different" = true) (k17 : PySem.W.keepIn K (.ref f17) = true)
    (a18 : PySem.W.nsIn K mainGlobals "_law_stream" = some (some (.ref f18))) (l18 : K.lookup f18 = some ⟨oc18, od18, .func (PySem.W.fnOf "_law_stream" "_law_stream" (defArgs s__law_stream) (defBody s__law_stream) (defScope s__law_stream) .none kV18 dc18 pm18 an18 cd18 ct18), sl18⟩) (c18 : PySem.W.codeIn K cd18 "_law_stream" = true) (k18 : PySem.W.keepIn K (.ref f18) = true)
    (a19 : PySem.W.nsIn K mainGlobals "_law_next" = some (some (.ref f19))) (l19 : K.lookup f19 = some ⟨oc19, od19, .func (PySem.W.fnOf "_law_next" "_law_next" (defArgs s__law_next) (defBody s__law_next) (defScope s__law_next) .none kV19 dc19 pm19 an19 cd19 ct19), sl19⟩) (c19 : PySem.W.codeIn K cd19 "_law_next" = true) (k19 : PySem.W.keepIn K (.ref f19) = true)
    (a20 : PySem.W.nsIn K mainGlobals "_law_is_integer" = some (some (.ref f20))) (l20 : K.lookup f20 = some ⟨oc20, od20, .func (PySem.W.fnOf "_law_is_integer" "_law_is_integer" (defArgs s__law_is_integer) (defBody s__law_is_integer) (defScope s__law_is_integer) .none kV20 dc20 pm20 an20 cd20 ct20), sl20⟩) (c20 : PySem.W.codeIn K cd20 "_law_is_integer" = true) (k20 : PySem.W.keepIn K (.ref f20) = true)
    (a21 : PySem.W.nsIn K mainGlobals "_law_equal" = some (some (.ref f21))) (l21 : K.lookup f21 = some ⟨oc21, od21, .func (PySem.W.fnOf "_law_equal" "_law_equal" (defArgs s__law_equal) (defBody s__law_equal) (defScope s__law_equal) .none kV21 dc21 pm21 an21 cd21 ct21), sl21⟩) (c21 : PySem.W.codeIn K cd21 "_law_equal" = true) (k21 : PySem.W.keepIn K (.ref f21) = true)
    (a22 : PySem.W.nsIn K mainGlobals "_law_sizes" = some (some (.ref f22))) (l22 : K.lookup f22 = some ⟨oc22, od22, .func (PySem.W.fnOf "_law_sizes" "_law_sizes" (defArgs s__law_sizes) (defBody s__law_sizes) (defScope s__law_sizes) .none kV22 dc22 pm22 an22 cd22 ct22), sl22⟩) (c22 : PySem.W.codeIn K cd22 "_law_sizes" = true) (k22 : PySem.W.keepIn K (.ref f22) = true)
    (a23 : PySem.W.nsIn K mainGlobals "_law_count" = some (some (.ref f23))) (l23 : K.lookup f23 = some ⟨oc23, od23, .func (PySem.W.fnOf "_law_count" "_law_count" (defArgs s__law_count) (defBody s__law_count) (defScope s__law_count) .none kV23 dc23 pm23 an23 cd23 ct23), sl23⟩) (c23 : PySem.W.codeIn K cd23 "_law_count" = true) (k23 : PySem.W.keepIn K (.ref f23) = true)
    (a24 : PySem.W.nsIn K mainGlobals "_law_drawn" = some (some (.ref f24))) (l24 : K.lookup f24 = some ⟨oc24, od24, .func (PySem.W.fnOf "_law_drawn" "_law_drawn" (defArgs s__law_drawn) (defBody s__law_drawn) (defScope s__law_drawn) .none kV24 dc24 pm24 an24 cd24 ct24), sl24⟩) (c24 : PySem.W.codeIn K cd24 "_law_drawn" = true) (k24 : PySem.W.keepIn K (.ref f24) = true)
    (a25 : PySem.W.nsIn K mainGlobals "_law_allocation" = some (some (.ref f25))) (l25 : K.lookup f25 = some ⟨oc25, od25, .func (PySem.W.fnOf "_law_allocation" "_law_allocation" (defArgs s__law_allocation) (defBody s__law_allocation) (defScope s__law_allocation) .none kV25 dc25 pm25 an25 cd25 ct25), sl25⟩) (c25 : PySem.W.codeIn K cd25 "_law_allocation" = true) (k25 : PySem.W.keepIn K (.ref f25) = true)
    (a26 : PySem.W.nsIn K mainGlobals "_law_three" = some (some (.ref f26))) (l26 : K.lookup f26 = some ⟨oc26, od26, .func (PySem.W.fnOf "_law_three" "_law_three" (defArgs s__law_three) (defBody s__law_three) (defScope s__law_three) .none kV26 dc26 pm26 an26 cd26 ct26), sl26⟩) (c26 : PySem.W.codeIn K cd26 "_law_three" = true) (k26 : PySem.W.keepIn K (.ref f26) = true)
    (a27 : PySem.W.nsIn K mainGlobals "_law_all" = some (some (.ref f27))) (l27 : K.lookup f27 = some ⟨oc27, od27, .func (PySem.W.fnOf "_law_all" "_law_all" (defArgs s__law_all) (defBody s__law_all) (defScope s__law_all) .none kV27 dc27 pm27 an27 cd27 ct27), sl27⟩) (c27 : PySem.W.codeIn K cd27 "_law_all" = true) (k27 : PySem.W.keepIn K (.ref f27) = true)
    (a28 : PySem.W.nsIn K mainGlobals "_law_of" = some (some (.ref f28))) (l28 : K.lookup f28 = some ⟨oc28, od28, .func (PySem.W.fnOf "_law_of" "_law_of" (defArgs s__law_of) (defBody s__law_of) (defScope s__law_of) .none kV28 dc28 pm28 an28 cd28 ct28), sl28⟩) (c28 : PySem.W.codeIn K cd28 "_law_of" = true) (k28 : PySem.W.keepIn K (.ref f28) = true)
    (a29 : PySem.W.nsIn K mainGlobals "_law_churn" = some (some (.ref f29))) (l29 : K.lookup f29 = some ⟨oc29, od29, .func (PySem.W.fnOf "_law_churn" "_law_churn" (defArgs s__law_churn) (defBody s__law_churn) (defScope s__law_churn) .none kV29 dc29 pm29 an29 cd29 ct29), sl29⟩) (c29 : PySem.W.codeIn K cd29 "_law_churn" = true) (k29 : PySem.W.keepIn K (.ref f29) = true)
    (a30 : PySem.W.nsIn K mainGlobals "_law_transfer" = some (some (.ref f30))) (l30 : K.lookup f30 = some ⟨oc30, od30, .func (PySem.W.fnOf "_law_transfer" "_law_transfer" (defArgs s__law_transfer) (defBody s__law_transfer) (defScope s__law_transfer) .none kV30 dc30 pm30 an30 cd30 ct30), sl30⟩) (c30 : PySem.W.codeIn K cd30 "_law_transfer" = true) (k30 : PySem.W.keepIn K (.ref f30) = true)
    (a31 : PySem.W.nsIn K mainGlobals "_law_least" = some (some (.ref f31))) (l31 : K.lookup f31 = some ⟨oc31, od31, .func (PySem.W.fnOf "_law_least" "_law_least" (defArgs s__law_least) (defBody s__law_least) (defScope s__law_least) .none kV31 dc31 pm31 an31 cd31 ct31), sl31⟩) (c31 : PySem.W.codeIn K cd31 "_law_least" = true) (k31 : PySem.W.keepIn K (.ref f31) = true)
    (a32 : PySem.W.nsIn K mainGlobals "_law_different" = some (some (.ref f32))) (l32 : K.lookup f32 = some ⟨oc32, od32, .func (PySem.W.fnOf "_law_different" "_law_different" (defArgs s__law_different) (defBody s__law_different) (defScope s__law_different) .none kV32 dc32 pm32 an32 cd32 ct32), sl32⟩) (c32 : PySem.W.codeIn K cd32 "_law_different" = true) (k32 : PySem.W.keepIn K (.ref f32) = true)
    (a33 : PySem.W.nsIn K mainGlobals "_law_tables" = some (some (.ref f33))) (l33 : K.lookup f33 = some ⟨oc33, od33, .func (PySem.W.fnOf "_law_tables" "_law_tables" (defArgs s__law_tables) (defBody s__law_tables) (defScope s__law_tables) .none kV33 dc33 pm33 an33 cd33 ct33), sl33⟩) (c33 : PySem.W.codeIn K cd33 "_law_tables" = true) (k33 : PySem.W.keepIn K (.ref f33) = true)
    (a34 : PySem.W.nsIn K mainGlobals "law" = some (some (.ref f34))) (l34 : K.lookup f34 = some ⟨oc34, od34, .func (PySem.W.fnOf "law" "law" (defArgs s_law) (defBody s_law) (defScope s_law) .none kV34 dc34 pm34 an34 cd34 ct34), sl34⟩) (c34 : PySem.W.codeIn K cd34 "law" = true) (k34 : PySem.W.keepIn K (.ref f34) = true)
    (z0 : PySem.W.nsIn K mainGlobals "abs" = some none)
    (z1 : PySem.W.nsIn K mainGlobals "all" = some none)
    (z2 : PySem.W.nsIn K mainGlobals "bool" = some none)
    (z3 : PySem.W.nsIn K mainGlobals "enumerate" = some none)
    (z4 : PySem.W.nsIn K mainGlobals "int" = some none)
    (z5 : PySem.W.nsIn K mainGlobals "isinstance" = some none)
    (z6 : PySem.W.nsIn K mainGlobals "len" = some none)
    (z7 : PySem.W.nsIn K mainGlobals "list" = some none)
    (z8 : PySem.W.nsIn K mainGlobals "max" = some none)
    (z9 : PySem.W.nsIn K mainGlobals "min" = some none)
    (z10 : PySem.W.nsIn K mainGlobals "range" = some none)
    (z11 : PySem.W.nsIn K mainGlobals "sorted" = some none)
    (z12 : PySem.W.nsIn K mainGlobals "str" = some none)
    (z13 : PySem.W.nsIn K mainGlobals "sum" = some none)
    (z14 : PySem.W.nsIn K mainGlobals "tuple" = some none)
    (z15 : PySem.W.nsIn K mainGlobals "zip" = some none)
    (m0 : PySem.W.nsIn K mainGlobals "MOST_VARIANTS_allocations" = some (some (.int 5 t0)))
    (m1 : PySem.W.nsIn K mainGlobals "MOST_BUCKETS_allocations" = some (some (.int 20 t1)))
    (m2 : PySem.W.nsIn K mainGlobals "MOST_VARIANTS_triples" = some (some (.int 5 t2)))
    (m3 : PySem.W.nsIn K mainGlobals "MOST_BUCKETS_triples" = some (some (.int 20 t3))) :
    ∃ fd : FuncData, (∀ (s : Shared) (v : Value), BindsTo s fd ⟨[v], []⟩ [("_law_script", v)]) ∧ ∀ base : Heap, K.In base → base.Ns mainGlobals mg → FnOk l.prog w K mg base CX0 8 fa fd ["_law_script"] (sp_law K) := by
  have e := hfa.symm.trans (PySem.W.mg_of X G a34)
  cases e
  refine ⟨_, fun s v => .of_eq rfl, fun base _ _ => ok_law (T := {
    is_whole := defn_mk X G "is_whole" s_is_whole ["value"] a1 l1 c1 k1 (fun _ _ _ _ _ _ us hl => match us, hl with | [_], _ => rfl),
    is_between := defn_mk X G "is_between" s_is_between ["value", "low", "high"] a2 l2 c2 k2 (fun _ _ _ _ _ _ us hl => match us, hl with | [_, _, _], _ => rfl),
    is_allocation := defn_mk X G "is_allocation" s_is_allocation ["value", "variants", "buckets"] a3 l3 c3 k3 (fun _ _ _ _ _ _ us hl => match us, hl with | [_, _, _], _ => rfl),
    check_allocation := defn_mk X G "check_allocation" s_check_allocation ["value", "name"] a4 l4 c4 k4 (fun _ _ _ _ _ _ us hl => match us, hl with | [_, _], _ => rfl),
    check_alike := defn_mk X G "check_alike" s_check_alike ["value", "first", "name"] a5 l5 c5 k5 (fun _ _ _ _ _ _ us hl => match us, hl with | [_, _, _], _ => rfl),
    medians := defn_mk X G "medians" s_medians ["first", "second", "third"] a6 l6 c6 k6 (fun _ _ _ _ _ _ us hl => match us, hl with | [_, _, _], _ => rfl),
    is_some_allocation := defn_mk X G "is_some_allocation" s_is_some_allocation ["value"] a7 l7 c7 k7 (fun _ _ _ _ _ _ us hl => match us, hl with | [_], _ => rfl),
    check_like := defn_mk X G "check_like" s_check_like ["model", "others"] a8 l8 c8 k8 (fun _ _ _ _ _ _ us hl => match us, hl with | [_, _], _ => rfl),
    check_three := defn_mk X G "check_three" s_check_three ["first", "second", "third"] a9 l9 c9 k9 (fun _ _ _ _ _ _ us hl => match us, hl with | [_, _, _], _ => rfl),
    extra := defn_mk X G "extra" s_extra ["allocations"] a10 l10 c10 k10 (fun _ _ _ _ _ _ us hl => match us, hl with | [_], _ => rfl),
    repeated := defn_mk X G "repeated" s_repeated ["counts"] a11 l11 c11 k11 (fun _ _ _ _ _ _ us hl => match us, hl with | [_], _ => rfl),
    twice_at := defn_mk X G "twice_at" s_twice_at ["allocations", "place"] a12 l12 c12 k12 (fun _ _ _ _ _ _ us hl => match us, hl with | [_, _], _ => rfl),
    single_at := defn_mk X G "single_at" s_single_at ["allocations", "place"] a13 l13 c13 k13 (fun _ _ _ _ _ _ us hl => match us, hl with | [_, _], _ => rfl),
    with_single := defn_mk X G "with_single" s_with_single ["place", "single", "other"] a14 l14 c14 k14 (fun _ _ _ _ _ _ us hl => match us, hl with | [_, _, _], _ => rfl),
    dealt := defn_mk X G "dealt" s_dealt ["allocations"] a15 l15 c15 k15 (fun _ _ _ _ _ _ us hl => match us, hl with | [_], _ => rfl),
    table_of_three := defn_mk X G "table_of_three" s_table_of_three ["first", "second", "third"] a16 l16 c16 k16 (fun _ _ _ _ _ _ us hl => match us, hl with | [_, _, _], _ => rfl),
    all_different := defn_mk X G "all_different" s_all_different ["first", "second", "third"] a17 l17 c17 k17 (fun _ _ _ _ _ _ us hl => match us, hl with | [_, _, _], _ => rfl),
    _law_stream := defn_mk X G "_law_stream" s__law_stream ["_law_script"] a18 l18 c18 k18 (fun _ _ _ _ _ _ us hl => match us, hl with | [_], _ => rfl),
    _law_next := defn_mk X G "_law_next" s__law_next ["_law_stream_here", "_law_many"] a19 l19 c19 k19 (fun _ _ _ _ _ _ us hl => match us, hl with | [_, _], _ => rfl),
    _law_is_integer := defn_mk X G "_law_is_integer" s__law_is_integer ["_law_actual"] a20 l20 c20 k20 (fun _ _ _ _ _ _ us hl => match us, hl with | [_], _ => rfl),
    _law_equal := defn_mk X G "_law_equal" s__law_equal ["_law_actual", "_law_due"] a21 l21 c21 k21 (fun _ _ _ _ _ _ us hl => match us, hl with | [_, _], _ => rfl),
    _law_sizes := defn_mk X G "_law_sizes" s__law_sizes ["_law_stream_here"] a22 l22 c22 k22 (fun _ _ _ _ _ _ us hl => match us, hl with | [_], _ => rfl),
    _law_count := defn_mk X G "_law_count" s__law_count ["_law_assignment", "_law_variants"] a23 l23 c23 k23 (fun _ _ _ _ _ _ us hl => match us, hl with | [_, _], _ => rfl),
    _law_drawn := defn_mk X G "_law_drawn" s__law_drawn ["_law_stream_here", "_law_variants", "_law_buckets"] a24 l24 c24 k24 (fun _ _ _ _ _ _ us hl => match us, hl with | [_, _, _], _ => rfl),
    _law_allocation := defn_mk X G "_law_allocation" s__law_allocation ["_law_stream_here", "_law_variants", "_law_buckets"] a25 l25 c25 k25 (fun _ _ _ _ _ _ us hl => match us, hl with | [_, _, _], _ => rfl),
    _law_three := defn_mk X G "_law_three" s__law_three ["_law_stream_here", "_law_variants", "_law_buckets"] a26 l26 c26 k26 (fun _ _ _ _ _ _ us hl => match us, hl with | [_, _, _], _ => rfl),
    _law_all := defn_mk X G "_law_all" s__law_all ["_law_variants", "_law_buckets"] a27 l27 c27 k27 (fun _ _ _ _ _ _ us hl => match us, hl with | [_, _], _ => rfl),
    _law_of := defn_mk X G "_law_of" s__law_of ["_law_allocation_here"] a28 l28 c28 k28 (fun _ _ _ _ _ _ us hl => match us, hl with | [_], _ => rfl),
    _law_churn := defn_mk X G "_law_churn" s__law_churn ["_law_one", "_law_other"] a29 l29 c29 k29 (fun _ _ _ _ _ _ us hl => match us, hl with | [_, _], _ => rfl),
    _law_transfer := defn_mk X G "_law_transfer" s__law_transfer ["_law_one", "_law_other"] a30 l30 c30 k30 (fun _ _ _ _ _ _ us hl => match us, hl with | [_, _], _ => rfl),
    _law_least := defn_mk X G "_law_least" s__law_least ["_law_one", "_law_allocation_here", "_law_other", "_law_to"] a31 l31 c31 k31 (fun _ _ _ _ _ _ us hl => match us, hl with | [_, _, _, _], _ => rfl),
    _law_different := defn_mk X G "_law_different" s__law_different ["_law_one", "_law_two", "_law_three_here"] a32 l32 c32 k32 (fun _ _ _ _ _ _ us hl => match us, hl with | [_, _, _], _ => rfl),
    _law_tables := defn_mk X G "_law_tables" s__law_tables ["_law_one", "_law_three_here"] a33 l33 c33 k33 (fun _ _ _ _ _ _ us hl => match us, hl with | [_, _], _ => rfl),
    law := defn_mk X G "law" s_law ["_law_script"] a34 l34 c34 k34 (fun _ _ _ _ _ _ us hl => match us, hl with | [_], _ => rfl),
    n_abs := PySem.W.mg_none_of X G z0,
    n_all := PySem.W.mg_none_of X G z1,
    n_bool := PySem.W.mg_none_of X G z2,
    n_enumerate := PySem.W.mg_none_of X G z3,
    n_int := PySem.W.mg_none_of X G z4,
    n_isinstance := PySem.W.mg_none_of X G z5,
    n_len := PySem.W.mg_none_of X G z6,
    n_list := PySem.W.mg_none_of X G z7,
    n_max := PySem.W.mg_none_of X G z8,
    n_min := PySem.W.mg_none_of X G z9,
    n_range := PySem.W.mg_none_of X G z10,
    n_sorted := PySem.W.mg_none_of X G z11,
    n_str := PySem.W.mg_none_of X G z12,
    n_sum := PySem.W.mg_none_of X G z13,
    n_tuple := PySem.W.mg_none_of X G z14,
    n_zip := PySem.W.mg_none_of X G z15,
    t_MOST_VARIANTS_allocations := t0,
    MOST_VARIANTS_allocations := PySem.W.mg_of X G m0,
    t_MOST_BUCKETS_allocations := t1,
    MOST_BUCKETS_allocations := PySem.W.mg_of X G m1,
    t_MOST_VARIANTS_triples := t2,
    MOST_VARIANTS_triples := PySem.W.mg_of X G m2,
    t_MOST_BUCKETS_triples := t3,
    MOST_BUCKETS_triples := PySem.W.mg_of X G m3 })⟩
end LmW
open PySem PySem.W PyProof.Rows in
set_option maxHeartbeats 0 in
theorem PySem.Challenge.cw_leastmoved_k28_whole_tables_of_three_holds : PySem.Challenge.rw_leastmoved_k28_whole_tables_of_three.Holds := by
  w_on; o_law; k_head; (case hw => w_witness2)
  k_fill
  refine L2.walk_ofK (l := PySem.Challenge.rw_leastmoved_k28_whole_tables_of_three) (n := 63) (k := 8) (x := "_law_script") (CX := L2.CX0) (sp := LmW.sp_law) rfl (by decide) rfl ⟨rfl, by decide, by decide⟩ (fun w h Y => PySem.W.kIn_of Y) ?F (fun _ _ a ns _ _ hS => ⟨a, ns, rfl, hS, fun _ => rfl⟩) (fun _ _ _ _ h => h)
  case F =>
    intro w mg fa h KX G hmg
    refine' LmW.all_mk KX G hmg ?a1 ?l1 ?c1 ?k1 ?a2 ?l2 ?c2 ?k2 ?a3 ?l3 ?c3 ?k3 ?a4 ?l4 ?c4 ?k4 ?a5 ?l5 ?c5 ?k5 ?a6 ?l6 ?c6 ?k6 ?a7 ?l7 ?c7 ?k7 ?a8 ?l8 ?c8 ?k8 ?a9 ?l9 ?c9 ?k9 ?a10 ?l10 ?c10 ?k10 ?a11 ?l11 ?c11 ?k11 ?a12 ?l12 ?c12 ?k12 ?a13 ?l13 ?c13 ?k13 ?a14 ?l14 ?c14 ?k14 ?a15 ?l15 ?c15 ?k15 ?a16 ?l16 ?c16 ?k16 ?a17 ?l17 ?c17 ?k17 ?a18 ?l18 ?c18 ?k18 ?a19 ?l19 ?c19 ?k19 ?a20 ?l20 ?c20 ?k20 ?a21 ?l21 ?c21 ?k21 ?a22 ?l22 ?c22 ?k22 ?a23 ?l23 ?c23 ?k23 ?a24 ?l24 ?c24 ?k24 ?a25 ?l25 ?c25 ?k25 ?a26 ?l26 ?c26 ?k26 ?a27 ?l27 ?c27 ?k27 ?a28 ?l28 ?c28 ?k28 ?a29 ?l29 ?c29 ?k29 ?a30 ?l30 ?c30 ?k30 ?a31 ?l31 ?c31 ?k31 ?a32 ?l32 ?c32 ?k32 ?a33 ?l33 ?c33 ?k33 ?a34 ?l34 ?c34 ?k34 ?z0 ?z1 ?z2 ?z3 ?z4 ?z5 ?z6 ?z7 ?z8 ?z9 ?z10 ?z11 ?z12 ?z13 ?z14 ?z15 ?m0 ?m1 ?m2 ?m3
    (case a1 => k_is)
    (case l1 => k_is)
    (case c1 => k_is)
    (case k1 => k_is)
    (case a2 => k_is)
    (case l2 => k_is)
    (case c2 => k_is)
    (case k2 => k_is)
    (case a3 => k_is)
    (case l3 => k_is)
    (case c3 => k_is)
    (case k3 => k_is)
    (case a4 => k_is)
    (case l4 => k_is)
    (case c4 => k_is)
    (case k4 => k_is)
    (case a5 => k_is)
    (case l5 => k_is)
    (case c5 => k_is)
    (case k5 => k_is)
    (case a6 => k_is)
    (case l6 => k_is)
    (case c6 => k_is)
    (case k6 => k_is)
    (case a7 => k_is)
    (case l7 => k_is)
    (case c7 => k_is)
    (case k7 => k_is)
    (case a8 => k_is)
    (case l8 => k_is)
    (case c8 => k_is)
    (case k8 => k_is)
    (case a9 => k_is)
    (case l9 => k_is)
    (case c9 => k_is)
    (case k9 => k_is)
    (case a10 => k_is)
    (case l10 => k_is)
    (case c10 => k_is)
    (case k10 => k_is)
    (case a11 => k_is)
    (case l11 => k_is)
    (case c11 => k_is)
    (case k11 => k_is)
    (case a12 => k_is)
    (case l12 => k_is)
    (case c12 => k_is)
    (case k12 => k_is)
    (case a13 => k_is)
    (case l13 => k_is)
    (case c13 => k_is)
    (case k13 => k_is)
    (case a14 => k_is)
    (case l14 => k_is)
    (case c14 => k_is)
    (case k14 => k_is)
    (case a15 => k_is)
    (case l15 => k_is)
    (case c15 => k_is)
    (case k15 => k_is)
    (case a16 => k_is)
    (case l16 => k_is)
    (case c16 => k_is)
    (case k16 => k_is)
    (case a17 => k_is)
    (case l17 => k_is)
    (case c17 => k_is)
    (case k17 => k_is)
    (case a18 => k_is)
    (case l18 => k_is)
    (case c18 => k_is)
    (case k18 => k_is)
    (case a19 => k_is)
    (case l19 => k_is)
    (case c19 => k_is)
    (case k19 => k_is)
    (case a20 => k_is)
    (case l20 => k_is)
    (case c20 => k_is)
    (case k20 => k_is)
    (case a21 => k_is)
    (case l21 => k_is)
    (case c21 => k_is)
    (case k21 => k_is)
    (case a22 => k_is)
    (case l22 => k_is)
    (case c22 => k_is)
    (case k22 => k_is)
    (case a23 => k_is)
    (case l23 => k_is)
    (case c23 => k_is)
    (case k23 => k_is)
    (case a24 => k_is)
    (case l24 => k_is)
    (case c24 => k_is)
    (case k24 => k_is)
    (case a25 => k_is)
    (case l25 => k_is)
    (case c25 => k_is)
    (case k25 => k_is)
    (case a26 => k_is)
    (case l26 => k_is)
    (case c26 => k_is)
    (case k26 => k_is)
    (case a27 => k_is)
    (case l27 => k_is)
    (case c27 => k_is)
    (case k27 => k_is)
    (case a28 => k_is)
    (case l28 => k_is)
    (case c28 => k_is)
    (case k28 => k_is)
    (case a29 => k_is)
    (case l29 => k_is)
    (case c29 => k_is)
    (case k29 => k_is)
    (case a30 => k_is)
    (case l30 => k_is)
    (case c30 => k_is)
    (case k30 => k_is)
    (case a31 => k_is)
    (case l31 => k_is)
    (case c31 => k_is)
    (case k31 => k_is)
    (case a32 => k_is)
    (case l32 => k_is)
    (case c32 => k_is)
    (case k32 => k_is)
    (case a33 => k_is)
    (case l33 => k_is)
    (case c33 => k_is)
    (case k33 => k_is)
    (case a34 => k_is)
    (case l34 => k_is)
    (case c34 => k_is)
    (case k34 => k_is)
    (case z0 => k_is)
    (case z1 => k_is)
    (case z2 => k_is)
    (case z3 => k_is)
    (case z4 => k_is)
    (case z5 => k_is)
    (case z6 => k_is)
    (case z7 => k_is)
    (case z8 => k_is)
    (case z9 => k_is)
    (case z10 => k_is)
    (case z11 => k_is)
    (case z12 => k_is)
    (case z13 => k_is)
    (case z14 => k_is)
    (case z15 => k_is)
    (case m0 => k_is)
    (case m1 => k_is)
    (case m2 => k_is)
    (case m3 => k_is)
