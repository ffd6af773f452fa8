import PyProof.Rows.All
import HandS.ForMost
import HandS.Zip
import HandS.MapObj
import KE.KDictZip
import PyProof.FactsSeq
import PyProof.ListNew
import HandS.Conv
import HandS.Iter
import KE.GoesMore
import KE.GoesEnum
import HandS.List
import HandS.SortInts
import KE.SortData
import KE.DataMinMax
import PyProof.P3Eq
import Wide.All
import OpenK.AllK
import Wide.FinOn
import HandS.IsInst
import HandS.Walk
import HandS.Flow
import HandS.TupAny
import HandS.TupMul
import HandS.Style
import HandS.Deep
import PySem.Challenge.RW_mergedmail_k51_whole_stacks_and_offers_o
set_option Elab.async false
set_option linter.all false
set_option maxRecDepth 100000
set_option maxHeartbeats 4000000
/-! list(zip(xs, ys)) of two lists or of two tuples; each pair a new tuple, all of them kept. -/
namespace ZL
open PySem PySem.Spec PyProof.Rows L2
theorem zip_no_len : typeLookup (.type "zip") "__len__" = pure none := by rw [typeLookup_type, builtinLookup_eq_fast]; kernel_rfl
theorem zip_no_hint : typeLookup (.type "zip") "__length_hint__" = pure none := by rw [typeLookup_type, builtinLookup_eq_fast]; kernel_rfl

section
variable {prog : Program} {w : World} {A : Around} {E : Value → Shared → Prop} {s : Shared}
/-- the iterators i1, i2 over the tuples l1, l2 stand at the k-th place -/
structure Two (h : Heap) (z TI TO i1 i2 l1 l2 : Addr) (k : Nat) (xs ys : Array Value) : Prop where
  D : ZipApart z TI TO i1 i2 l1 l2
  ti : IsPair h TI (.ref i1) (.ref i2)
  to : ∃ x y, IsPair h TO x y
  p1 : h.IsTupleIter i1 l1 k
  p2 : h.IsTupleIter i2 l2 k
  q1 : h.IsTuple l1 xs
  q2 : h.IsTuple l2 ys
theorem heldT_item {z TI TO T i1 i2 l1 l2 : Addr} {f : Bool} {oT : Obj} {k : Nat} {xs ys : Array Value} {x y : Value} {Q : Value → Shared → Prop}
    (Z : IsZipHeld s.heap z TI TO T f) (hT : s.heap.get? T = some oT) (S : Two s.heap z TI TO i1 i2 l1 l2 k xs ys) (hx : xs[k]? = some x) (hy : ys[k]? = some y)
    (fin : ∀ g, IsZipHeld g z TI TO T true → g.IsTupleIter i1 l1 (k + 1) → g.IsTupleIter i2 l2 (k + 1) → IsPair g s.heap.objs.size x y → g.objs.size = s.heap.objs.size + 1 →
      (∀ c o, c ≠ z → c ≠ i1 → c ≠ i2 → s.heap.get? c = some o → g.get? c = some o) → Q (.ref s.heap.objs.size) { s with heap := g }) :
    wpAny (model prog w) A (Builtin.«zip.__next__» ⟨[.ref z], []⟩) (fun r s' => ∃ v, r = .done (.ret v) ∧ Q v s') E s := by
  have D := S.D
  show wpAny _ _ (field (.ref z) 2 >>= _) _ _ s
  refine wpAny_bind (wpAny_field Z rfl (x := .bool false) rfl ?_)
  show wpAny _ _ (field (.ref z) 3 >>= _) _ _ s
  refine wpAny_bind (wpAny_field Z rfl (x := .ref TI) rfl ?_)
  refine wpAny_bind (wpAny_seqItems S.ti rfl ?_)
  show wpAny _ _ (Builtin.SmallTypes.ownedTupleIsFree (.ref z) >>= _) _ _ s
  refine wpAny_bind (wpAny_tupleHeld_zip Z hT fun g1 Z1 b1 => ?_)
  simp only [Bool.false_eq_true, if_false]
  refine wpAny_bind ?_
  rw [← Array.forIn_toList]
  simp only [List.forIn_cons, List.forIn_nil]
  refine wpAny_bind (wpAny_bind (wpAny_holding ?_))
  show wpAny _ _ (Builtin.SmallTypes.nextOf (.ref i1) >>= _) _ _ _
  have P1 : g1.IsTupleIter i1 l1 k := S.p1.at fun o e => b1.extBut _ _ D.i1z e
  have P2 : g1.IsTupleIter i2 l2 k := S.p2.at fun o e => b1.extBut _ _ D.i2z e
  have Q1 : g1.IsTuple l1 xs := by
    obtain ⟨o, e, r⟩ := S.q1
    exact ⟨o, b1.extBut _ _ D.l1z e, r⟩
  have Q2 : g1.IsTuple l2 ys := by
    obtain ⟨o, e, r⟩ := S.q2
    exact ⟨o, b1.extBut _ _ D.l2z e, r⟩
  refine wpAny_bind (RZ.nextOf_tuple_item (s := { s with heap := g1 }) P1 Q1 hx fun g2 n1 b2 => wpAny_pure ?_)
  refine wpAny_pure ?_
  refine wpAny_bind (wpAny_bind (wpAny_holding ?_))
  show wpAny _ _ (Builtin.SmallTypes.nextOf (.ref i2) >>= _) _ _ _
  have P2' : g2.IsTupleIter i2 l2 k := P2.at fun o e => b2.extBut _ _ D.i12.symm e
  have Q2' : g2.IsTuple l2 ys := by
    obtain ⟨o, e, r⟩ := Q2
    exact ⟨o, b2.extBut _ _ D.l2i1 e, r⟩
  refine wpAny_bind (RZ.nextOf_tuple_item (s := { s with heap := g2 }) P2' Q2' hy fun g3 n2 b3 => wpAny_pure ?_)
  refine wpAny_pure (wpAny_pure ?_)
  show wpAny _ _ (newTuple [x, y] >>= _) _ _ _
  refine wpAny_bind (wpAny_newTuple ?_)
  have sz : g3.objs.size = s.heap.objs.size := by rw [b3.1, b2.1, b1.1]
  have Z3 : IsZipHeld g3 z TI TO T true := b3.extBut _ _ D.i2z.symm (b2.extBut _ _ D.i1z.symm Z1)
  have kp : ∀ c o, c ≠ z → c ≠ i1 → c ≠ i2 → s.heap.get? c = some o → g3.get? c = some o := fun c o c1 c2 c3 e => b3.extBut _ _ c3 (b2.extBut _ _ c2 (b1.extBut _ _ c1 e))
  have m1 : g3.IsTupleIter i1 l1 (k + 1) := n1.at fun o e => b3.extBut _ _ D.i12 e
  refine wpAny_pure ⟨_, rfl, ?_⟩
  show Q (.ref g3.objs.size) _
  have hp : IsPair (g3.push { cls := .type "tuple", data := .seq #[x, y] }) g3.objs.size x y := Heap.get?_push_size _ rfl
  have s4 : (g3.push { cls := .type "tuple", data := .seq #[x, y] }).objs.size = g3.objs.size + 1 := Heap.size_push ..
  rw [sz] at hp s4 ⊢
  exact fin _ (Heap.get?_push_of_some _ Z3) (m1.at fun o e => Heap.get?_push_of_some _ e) (n2.at fun o e => Heap.get?_push_of_some _ e) hp s4 fun c o c1 c2 c3 e => Heap.get?_push_of_some _ (kp c o c1 c2 c3 e)
theorem heldT_end {z TI TO T i1 i2 l1 l2 : Addr} {f : Bool} {oT : Obj} {k : Nat} {xs ys : Array Value} {Q : Fin → Shared → Prop} (hh : A.handled = none)
    (Z : IsZipHeld s.heap z TI TO T f) (hT : s.heap.get? T = some oT) (S : Two s.heap z TI TO i1 i2 l1 l2 k xs ys) (stop : xs[k]? = none ∨ ys[k]? = none)
    (fin : ∀ g e, (∀ c o, c ≠ z → c ≠ i1 → c ≠ i2 → s.heap.get? c = some o → g.get? c = some o) → (∃ o, g.get? e = some o ∧ o.cls = .type "StopIteration") → E (.ref e) { s with heap := g }) :
    wpAny (model prog w) A (Builtin.«zip.__next__» ⟨[.ref z], []⟩) Q E s := by
  have D := S.D
  show wpAny _ _ (field (.ref z) 2 >>= _) _ _ s
  refine wpAny_bind (wpAny_field Z rfl (x := .bool false) rfl ?_)
  show wpAny _ _ (field (.ref z) 3 >>= _) _ _ s
  refine wpAny_bind (wpAny_field Z rfl (x := .ref TI) rfl ?_)
  refine wpAny_bind (wpAny_seqItems S.ti rfl ?_)
  show wpAny _ _ (Builtin.SmallTypes.ownedTupleIsFree (.ref z) >>= _) _ _ s
  refine wpAny_bind (wpAny_tupleHeld_zip Z hT fun g1 Z1 b1 => ?_)
  simp only [Bool.false_eq_true, if_false]
  refine wpAny_bind ?_
  rw [← Array.forIn_toList]
  simp only [List.forIn_cons, List.forIn_nil]
  refine wpAny_bind (wpAny_bind (wpAny_holding ?_))
  show wpAny _ _ (Builtin.SmallTypes.nextOf (.ref i1) >>= _) _ _ _
  have P1 : g1.IsTupleIter i1 l1 k := S.p1.at fun o e => b1.extBut _ _ D.i1z e
  have P2 : g1.IsTupleIter i2 l2 k := S.p2.at fun o e => b1.extBut _ _ D.i2z e
  have Q1 : g1.IsTuple l1 xs := by
    obtain ⟨o, e, r⟩ := S.q1
    exact ⟨o, b1.extBut _ _ D.l1z e, r⟩
  have Q2 : g1.IsTuple l2 ys := by
    obtain ⟨o, e, r⟩ := S.q2
    exact ⟨o, b1.extBut _ _ D.l2z e, r⟩
  cases hx : xs[k]? with
  | none =>
    refine wpAny_bind (RZ.nextOf_tuple_end (s := { s with heap := g1 }) hh P1 Q1 hx fun g2 e b2 he => ?_)
    exact fin g2 e (fun c o c1 c2 _ q => b2 _ _ c2 (b1.extBut _ _ c1 q)) he
  | some x =>
    have hy : ys[k]? = none := by
      rcases stop with q | q
      · rw [hx] at q; cases q
      · exact q
    refine wpAny_bind (RZ.nextOf_tuple_item (s := { s with heap := g1 }) P1 Q1 hx fun g2 n1 b2 => wpAny_pure ?_)
    refine wpAny_pure ?_
    refine wpAny_bind (wpAny_bind (wpAny_holding ?_))
    show wpAny _ _ (Builtin.SmallTypes.nextOf (.ref i2) >>= _) _ _ _
    have P2' : g2.IsTupleIter i2 l2 k := P2.at fun o e => b2.extBut _ _ D.i12.symm e
    have Q2' : g2.IsTuple l2 ys := by
      obtain ⟨o, e, r⟩ := Q2
      exact ⟨o, b2.extBut _ _ D.l2i1 e, r⟩
    refine wpAny_bind (RZ.nextOf_tuple_end (s := { s with heap := g2 }) hh P2' Q2' hy fun g3 e b3 he => ?_)
    exact fin g3 e (fun c o c1 c2 c3 q => b3 _ _ c3 (b2.extBut _ _ c2 (b1.extBut _ _ c1 q))) he
theorem heldT_next {z TI TO T i1 i2 l1 l2 : Addr} {f : Bool} {oT : Obj} {k : Nat} {xs ys : Array Value} {x y : Value} {Q : Option Value → Shared → Prop}
    (Z : IsZipHeld s.heap z TI TO T f) (hT : s.heap.get? T = some oT) (S : Two s.heap z TI TO i1 i2 l1 l2 k xs ys) (hx : xs[k]? = some x) (hy : ys[k]? = some y)
    (fin : ∀ g, IsZipHeld g z TI TO T true → g.IsTupleIter i1 l1 (k + 1) → g.IsTupleIter i2 l2 (k + 1) → IsPair g s.heap.objs.size x y → g.objs.size = s.heap.objs.size + 1 →
      (∀ c o, c ≠ z → c ≠ i1 → c ≠ i2 → s.heap.get? c = some o → g.get? c = some o) → Q (some (.ref s.heap.objs.size)) { s with heap := g }) : wpAny (model prog w) A (pyNext (.ref z)) Q E s := by
  have ty : s.TypeIs (.ref z) "zip" := ⟨_, Z, rfl⟩
  unfold pyNext
  exact wpAny_bind (wpAny_attempt (wpAny_callSpecial?_slot (name := Str.ofString "__next__") ty F.slot_zip_next
    (wpAny_call_entry F.slot_zip_next ty F.entry_zip_next (heldT_item Z hT S hx hy fun g a1 a2 a3 a4 a5 a6 => wpAny_pure (fin g a1 a2 a3 a4 a5 a6)) (F.args_zip_next_1 _))))
theorem heldT_stop {z TI TO T i1 i2 l1 l2 : Addr} {f : Bool} {oT : Obj} {k : Nat} {xs ys : Array Value} {Q : Option Value → Shared → Prop} (hh : A.handled = none)
    (Z : IsZipHeld s.heap z TI TO T f) (hT : s.heap.get? T = some oT) (S : Two s.heap z TI TO i1 i2 l1 l2 k xs ys) (stop : xs[k]? = none ∨ ys[k]? = none)
    (fin : ∀ g, (∀ c o, c ≠ z → c ≠ i1 → c ≠ i2 → s.heap.get? c = some o → g.get? c = some o) → Q none { s with heap := g }) : wpAny (model prog w) A (pyNext (.ref z)) Q E s := by
  have ty : s.TypeIs (.ref z) "zip" := ⟨_, Z, rfl⟩
  unfold pyNext
  refine wpAny_bind (wpAny_attempt (wpAny_callSpecial?_slot (name := Str.ofString "__next__") ty F.slot_zip_next
    (wpAny_call_entry F.slot_zip_next ty F.entry_zip_next (heldT_end hh Z hT S stop fun g e kp he => ?_) (F.args_zip_next_1 _))))
  obtain ⟨o, ho, hc⟩ := he
  refine wpAny_bind (wpAny_isInstance (T := "StopIteration") (b := true) ⟨o, ho, hc⟩ isSubtype_stop ?_)
  exact wpAny_pure (fin _ kp)
end
end ZL
namespace ZL
open PySem PySem.Spec PyProof.Rows L2
/-- n pairs of us come out of the zip at z, the list at q being filled meanwhile -/
structure ZW (P : Program) (w : World) (z q : Addr) (ch : List Addr) (n : Nat) (us : Nat → Value × Value) (Z : Nat → Heap → Prop) : Prop where
  ty : ∀ i h, Z i h → ∃ o, h.get? z = some o ∧ o.cls = .type "zip"
  lt : ∀ i h, Z i h → ∀ b ∈ ch, b < h.objs.size
  keep : ∀ i h h', Z i h → (∀ c o, c ≠ q → h.get? c = some o → h'.get? c = some o) → Z i h'
  item : ∀ (A : Around) (E : Value → Shared → Prop) (s : Shared) (i : Nat) (Q : Option Value → Shared → Prop), i < n → q < s.heap.objs.size → Z i s.heap →
    (∀ g, Z (i + 1) g → IsPair g s.heap.objs.size (us i).1 (us i).2 → (∀ c o, c ∉ ch → s.heap.get? c = some o → g.get? c = some o) → Q (some (.ref s.heap.objs.size)) { s with heap := g }) → wpAny (model P w) A (pyNext (.ref z)) Q E s
  stop : ∀ (A : Around) (E : Value → Shared → Prop) (s : Shared) (Q : Option Value → Shared → Prop), A.handled = none → Z n s.heap →
    (∀ g, (∀ c o, c ∉ ch → s.heap.get? c = some o → g.get? c = some o) → Q none { s with heap := g }) → wpAny (model P w) A (pyNext (.ref z)) Q E s
  iter : ∀ (A : Around) (E : Value → Shared → Prop) (s : Shared) (Q : Value → Shared → Prop), Z 0 s.heap → Q (.ref z) s → wpAny (model P w) A (pyIter (.ref z)) Q E s
section
variable {X : Cx} {pins : List (Addr × Obj)} {σ : L2.St} {s : Shared} {z q : Addr} {ch : List Addr} {n : Nat} {us : Nat → Value × Value} {Z : Nat → Heap → Prop} {A1 : Around}
theorem fp_keep {H H' : Hp} {b : Addr} (f : FpOk X pins H b) (e : H' b = none) : FpOk X pins H' b := ⟨e, f.2⟩
theorem zl_loop {vs : Nat → V × V} {Pv : Nat → List V → Hp → Prop} {Rs : Result → Shared → Prop} (zw : ZW X.prog X.w z q ch n us Z) (hA : A1.in1.handled = none)
    (rel : ∀ i, i < n → L2.RelV (vs i).1 (us i).1 ∧ L2.RelV (vs i).2 (us i).2) (hn : n ≤ sizeLine)
    (next : ∀ i acc H p, i < n → Pv i acc H → H q = some (.lst acc) → H p = none → Pv (i + 1) (acc ++ [.ref p]) (upd (upd H p (.tup [(vs i).1, (vs i).2])) q (.lst (acc ++ [.ref p]))))
    (done : ∀ acc H s, Inv X pins σ H s → Pv n acc H → H q = some (.lst acc) → Rs (.ok (.ret .none)) s) :
    ∀ (m i : Nat) (acc : List V) (H : Hp) (s : Shared), m + i = n → acc.length = i → Inv X pins σ H s → Z i s.heap → (∀ b ∈ ch, FpOk X pins H b) → H q = some (.lst acc) → Pv i acc H →
      codeAny (model X.prog X.w) A1 (.builtin "list.extend.loop" ⟨[.ref q, .ref z, .none], []⟩) Rs s := by
  intro m
  induction m with
  | zero =>
    intro i acc H s hm hl I hz hf hq hP
    have e : i = n := by omega
    subst e
    refine codeAny_builtin PySem.F.entry_extend_loop ?_
    rw [Around.under_plainId PySem.F.plain_extend_loop _]
    show wpAny _ A1.in1 (pyNext (.ref z) >>= _) _ _ s
    refine wpAny_bind (zw.stop _ _ s _ hA hz fun g kp => ?_)
    exact wpAny_pure (done acc H _ (I.turnedL (t' := s.toks) kp hf) hP hq)
  | succ m ih =>
    intro i acc H s hm hl I hz hf hq hP
    have hi : i < n := by omega
    refine codeAny_builtin PySem.F.entry_extend_loop ?_
    rw [Around.under_plainId PySem.F.plain_extend_loop _]
    show wpAny _ A1.in1 (pyNext (.ref z) >>= _) _ _ s
    have hqlt : q < s.heap.objs.size := I.hok.lt hq
    refine wpAny_bind (zw.item _ _ s i _ hi hqlt hz fun g hz' hT kp => ?_)
    have fresh : H s.heap.objs.size = none := I.hok.fresh (Nat.le_refl _)
    obtain ⟨r1, r2⟩ := rel i hi
    have I1 : Inv X pins σ (upd H s.heap.objs.size (.tup [(vs i).1, (vs i).2])) { s with heap := g } :=
      I.turnedNew (t' := s.toks) kp hf (Nat.le_refl _) ⟨by show 2 ≤ sizeLine; decide, [(us i).1, (us i).2], .cons r1 (.cons r2 .nil), ⟨_, hT, rfl, _, rfl⟩⟩
    have hq1 : upd H s.heap.objs.size (.tup [(vs i).1, (vs i).2]) q = some (.lst acc) := by rw [upd_ne (ne_of_none hq fresh)]; exact hq
    show wpAny _ A1.in1 (updateSeq q (·.push (.ref s.heap.objs.size)) >>= _) _ _ _
    obtain ⟨_, its, k, rv, hlen, e⟩ := I1.lstM hq1
    have hlt : its.length < sizeLine := by omega
    refine wpAny_bind (wpAny_updateSeq e rfl (wpAny_pure ⟨plainId_quiet PySem.F.plain_extend_loop _, ?_⟩) (by rw [List.size_toArray]; omega) (by show (its.toArray.push _).size ≤ sizeLine + 1; rw [Array.size_push, List.size_toArray]; omega))
    have I2 := I1.lset (f := (·.push (Value.ref s.heap.objs.size))) (its' := its ++ [.ref s.heap.objs.size]) (ys := acc ++ [.ref s.heap.objs.size]) (t' := s.toks) hq1 e (by simp) (rv.append (.cons (show L2.RelV (V.ref s.heap.objs.size) (Value.ref s.heap.objs.size) from rfl) .nil)) (by rw [List.length_append, List.length_singleton]; omega)
    refine ih (i + 1) (acc ++ [.ref s.heap.objs.size]) _ _ (by omega) (by simp [hl]) I2 (zw.keep _ _ _ hz' fun c o hc ho => ?_) (fun b hb => fp_keep (hf b hb) ?_) upd_same (next i acc H _ hi hP hq fresh)
    · exact (Heap.get?_update_other g _ (Ne.symm hc)).trans ho
    · have hb' : b < s.heap.objs.size := zw.lt i _ hz b hb
      have hbq : b ≠ q := fun z' => by have := (hf b hb).1; rw [z', hq] at this; cases this
      rw [upd_ne hbq, upd_ne (Nat.ne_of_lt hb')]
      exact (hf b hb).1
end
end ZL
namespace ZL
open PySem PySem.Spec PyProof.Rows L2
/-- the zip before its first pair, or with its tuple T out -/
def Out (h : Heap) (z TI TO q : Addr) (ch : List Addr) (i : Nat) : Prop :=
  (i = 0 ∧ IsZip h z TI TO .none) ∨ ∃ (T : Addr) (f : Bool) (oT : Obj), 0 < i ∧ IsZipHeld h z TI TO T f ∧ h.get? T = some oT ∧ T ∉ ch ∧ T ≠ q
theorem Out.keep {h h' : Heap} {z TI TO q : Addr} {ch : List Addr} {i : Nat} (o : Out h z TI TO q ch i) (hz : z ≠ q) (k : ∀ c o, c ≠ q → h.get? c = some o → h'.get? c = some o) : Out h' z TI TO q ch i := by
  rcases o with ⟨e, o⟩ | ⟨T, f, oT, o0, o1, o2, o3, o4⟩
  · exact .inl ⟨e, k _ _ hz o⟩
  · exact .inr ⟨T, f, oT, o0, k _ _ hz o1, k _ _ o4 o2, o3, o4⟩
structure LZ (xs ys : Array Value) (z TI TO i1 i2 l1 l2 q : Addr) (i : Nat) (h : Heap) : Prop where
  out : Out h z TI TO q [z, TI, TO, i1, i2] i
  ti : IsPair h TI (.ref i1) (.ref i2)
  to : ∃ x y, IsPair h TO x y
  p1 : h.IsListIter i1 l1 i
  p2 : h.IsListIter i2 l2 i
  q1 : h.IsList l1 xs
  q2 : h.IsList l2 ys
structure TZ (xs ys : Array Value) (z TI TO i1 i2 l1 l2 q : Addr) (i : Nat) (h : Heap) : Prop where
  out : Out h z TI TO q [z, TI, TO, i1, i2] i
  ti : IsPair h TI (.ref i1) (.ref i2)
  to : ∃ x y, IsPair h TO x y
  p1 : h.IsTupleIter i1 l1 i
  p2 : h.IsTupleIter i2 l2 i
  q1 : h.IsTuple l1 xs
  q2 : h.IsTuple l2 ys
theorem out_zip {h : Heap} {z TI TO q : Addr} {ch : List Addr} {i : Nat} (o : Out h z TI TO q ch i) : ∃ u, h.get? z = some u ∧ u.cls = .type "zip" := by
  rcases o with ⟨_, o⟩ | ⟨T, f, oT, o0, o1, _⟩
  · exact ⟨_, o, rfl⟩
  · exact ⟨_, o1, rfl⟩
theorem out_iter {P : Program} {w : World} {A : Around} {E : Value → Shared → Prop} {s : Shared} {Q : Value → Shared → Prop} {z TI TO q : Addr} {ch : List Addr} (o : Out s.heap z TI TO q ch 0) (h : Q (.ref z) s) : wpAny (model P w) A (pyIter (.ref z)) Q E s := by
  rcases o with ⟨_, o⟩ | ⟨T, f, oT, o0, _⟩
  · exact wpAny_pyIter_zip o h
  · exact absurd o0 (Nat.lt_irrefl _)
theorem big_ne {a b : Nat} (h : a < b) (e : b = a) : False := absurd (e ▸ h) (Nat.lt_irrefl _)
theorem apart_ch {z TI TO i1 i2 l1 l2 c : Addr} (hc : c ∉ [z, TI, TO, i1, i2]) : c ≠ z ∧ c ≠ TI ∧ c ≠ TO ∧ c ≠ i1 ∧ c ≠ i2 := by
  refine ⟨fun e => hc ?_, fun e => hc ?_, fun e => hc ?_, fun e => hc ?_, fun e => hc ?_⟩ <;> simp [e]
theorem zw_list {P : Program} {w : World} {xs ys : Array Value} {z TI TO i1 i2 l1 l2 q : Addr} (D : ZipApart z TI TO i1 i2 l1 l2) (hq : q ∉ [z, TI, TO, i1, i2, l1, l2]) :
    ZW P w z q [z, TI, TO, i1, i2] (min xs.size ys.size) (fun i => (xs.getD i .none, ys.getD i .none)) (LZ xs ys z TI TO i1 i2 l1 l2 q) where
  ty := fun i h s => out_zip s.out
  lt := fun i h s b hb => by
    have e' : b = z ∨ b = TI ∨ b = TO ∨ b = i1 ∨ b = i2 := by simpa using hb
    rcases e' with e | e | e | e | e
    · obtain ⟨u, e2, _⟩ := out_zip s.out; rw [e]; exact Heap.lt_size e2
    · rw [e]; exact Heap.lt_size s.ti
    · obtain ⟨x, y, e2⟩ := s.to; rw [e]; exact Heap.lt_size e2
    · obtain ⟨o, e2, _⟩ := s.p1; rw [e]; exact Heap.lt_size e2
    · obtain ⟨o, e2, _⟩ := s.p2; rw [e]; exact Heap.lt_size e2
  keep := fun i h h' s k => by
    have ne : ∀ c, c ∈ [z, TI, TO, i1, i2, l1, l2] → c ≠ q := fun c hc e => hq (e ▸ hc)
    obtain ⟨x, y, e⟩ := s.to
    obtain ⟨o1, e1, r1⟩ := s.q1
    obtain ⟨o2, e2, r2⟩ := s.q2
    exact ⟨s.out.keep (ne z (by simp)) k, k _ _ (ne TI (by simp)) s.ti, ⟨x, y, k _ _ (ne TO (by simp)) e⟩, s.p1.at fun o e => k _ _ (ne i1 (by simp)) e, s.p2.at fun o e => k _ _ (ne i2 (by simp)) e, ⟨o1, k _ _ (ne l1 (by simp)) e1, r1⟩, ⟨o2, k _ _ (ne l2 (by simp)) e2, r2⟩⟩
  item := fun A E s i Q hi hqs S fin => by
    have h1 : i < xs.size := by omega
    have h2 : i < ys.size := by omega
    have hx : xs[i]? = some (xs.getD i .none) := by simp [h1]
    have hy : ys[i]? = some (ys.getD i .none) := by simp [h2]
    have lift : ∀ g : Heap, (∀ c o, c ≠ z → c ≠ TO → c ≠ i1 → c ≠ i2 → s.heap.get? c = some o → g.get? c = some o) → g.IsList l1 xs ∧ g.IsList l2 ys ∧ IsPair g TI (.ref i1) (.ref i2) := fun g k => by
      obtain ⟨o1, e1, r1⟩ := S.q1
      obtain ⟨o2, e2, r2⟩ := S.q2
      exact ⟨⟨o1, k _ _ D.l1z D.l1TO D.l1i1 D.l1i2 e1, r1⟩, ⟨o2, k _ _ D.l2z D.l2TO D.l2i1 D.l2i2 e2, r2⟩, k _ _ D.TIz D.TITO D.TIi1 D.TIi2 S.ti⟩
    have big : s.heap.objs.size ∉ [z, TI, TO, i1, i2] := fun hb => by
      have e' : s.heap.objs.size = z ∨ s.heap.objs.size = TI ∨ s.heap.objs.size = TO ∨ s.heap.objs.size = i1 ∨ s.heap.objs.size = i2 := by simpa using hb
      rcases e' with e | e | e | e | e
      · obtain ⟨u, e2, _⟩ := out_zip S.out
        exact big_ne (Heap.lt_size e2) e
      · exact big_ne (Heap.lt_size S.ti) e
      · obtain ⟨x, y, e2⟩ := S.to
        exact big_ne (Heap.lt_size e2) e
      · obtain ⟨o, e2, _⟩ := S.p1
        exact big_ne (Heap.lt_size e2) e
      · obtain ⟨o, e2, _⟩ := S.p2
        exact big_ne (Heap.lt_size e2) e
    rcases S.out with ⟨e0, o⟩ | ⟨T, f, oT, o0, o1, o2, o3, o4⟩
    · obtain ⟨x0, y0, hTO⟩ := S.to
      refine wpAny_pyNext_zip_item D o S.ti hTO S.p1 S.p2 S.q1 S.q2 hx hy fun g z' TO' p1 p2 hT hsz k => ?_
      obtain ⟨a1, a2, a3⟩ := lift g k
      exact fin g ⟨.inr ⟨_, false, _, Nat.succ_pos _, z', hT, big, Nat.ne_of_gt hqs⟩, a3, ⟨_, _, TO'⟩, p1, p2, a1, a2⟩ hT fun c o hc => by
        obtain ⟨c1, c2, c3, c4, c5⟩ := apart_ch (l1 := l1) (l2 := l2) hc
        exact k c o c1 c3 c4 c5
    · refine wpAny_pyNext_zip_item_held D o1 o2 S.ti S.p1 S.p2 S.q1 S.q2 hx hy fun g z' p1 p2 hT hsz k => ?_
      obtain ⟨a1, a2, a3⟩ := lift g fun c o c1 _ c3 c4 => k c o c1 c3 c4
      obtain ⟨x0, y0, hTO⟩ := S.to
      obtain ⟨t1, t2, t3, t4, t5⟩ := apart_ch (l1 := l1) (l2 := l2) o3
      exact fin g ⟨.inr ⟨T, true, oT, Nat.succ_pos _, z', k _ _ t1 t4 t5 o2, o3, o4⟩, a3, ⟨x0, y0, k _ _ D.TOz D.TOi1 D.TOi2 hTO⟩, p1, p2, a1, a2⟩ hT fun c o hc => by
        obtain ⟨c1, c2, c3, c4, c5⟩ := apart_ch (l1 := l1) (l2 := l2) hc
        exact k c o c1 c4 c5
  stop := fun A E s Q hh S fin => by
    have he : xs[min xs.size ys.size]? = none ∨ ys[min xs.size ys.size]? = none := by
      by_cases c : xs.size ≤ ys.size
      · exact .inl (by rw [Nat.min_eq_left c]; simp)
      · exact .inr (by rw [Nat.min_eq_right (by omega)]; simp)
    rcases S.out with ⟨e0, o⟩ | ⟨T, f, oT, o0, o1, o2, o3, o4⟩
    · obtain ⟨x0, y0, hTO⟩ := S.to
      refine wpAny_pyNext_zip_end hh D o S.ti hTO S.p1 S.p2 S.q1 S.q2 he fun g k => fin g fun c o hc => ?_
      obtain ⟨c1, c2, c3, c4, c5⟩ := apart_ch (l1 := l1) (l2 := l2) hc
      exact k c o c1 c3 c4 c5
    · refine wpAny_pyNext_zip_end_held hh D o1 o2 S.ti S.p1 S.p2 S.q1 S.q2 he fun g k => fin g fun c o hc => ?_
      obtain ⟨c1, c2, c3, c4, c5⟩ := apart_ch (l1 := l1) (l2 := l2) hc
      exact k c o c1 c4 c5
  iter := fun A E s Q S h => out_iter S.out h
theorem zw_tup {P : Program} {w : World} {xs ys : Array Value} {z TI TO i1 i2 l1 l2 q : Addr} (D : ZipApart z TI TO i1 i2 l1 l2) (hq : q ∉ [z, TI, TO, i1, i2, l1, l2]) :
    ZW P w z q [z, TI, TO, i1, i2] (min xs.size ys.size) (fun i => (xs.getD i .none, ys.getD i .none)) (TZ xs ys z TI TO i1 i2 l1 l2 q) where
  ty := fun i h s => out_zip s.out
  lt := fun i h s b hb => by
    have e' : b = z ∨ b = TI ∨ b = TO ∨ b = i1 ∨ b = i2 := by simpa using hb
    rcases e' with e | e | e | e | e
    · obtain ⟨u, e2, _⟩ := out_zip s.out; rw [e]; exact Heap.lt_size e2
    · rw [e]; exact Heap.lt_size s.ti
    · obtain ⟨x, y, e2⟩ := s.to; rw [e]; exact Heap.lt_size e2
    · obtain ⟨o, e2, _⟩ := s.p1; rw [e]; exact Heap.lt_size e2
    · obtain ⟨o, e2, _⟩ := s.p2; rw [e]; exact Heap.lt_size e2
  keep := fun i h h' s k => by
    have ne : ∀ c, c ∈ [z, TI, TO, i1, i2, l1, l2] → c ≠ q := fun c hc e => hq (e ▸ hc)
    obtain ⟨x, y, e⟩ := s.to
    obtain ⟨o1, e1, r1⟩ := s.q1
    obtain ⟨o2, e2, r2⟩ := s.q2
    exact ⟨s.out.keep (ne z (by simp)) k, k _ _ (ne TI (by simp)) s.ti, ⟨x, y, k _ _ (ne TO (by simp)) e⟩, s.p1.at fun o e => k _ _ (ne i1 (by simp)) e, s.p2.at fun o e => k _ _ (ne i2 (by simp)) e, ⟨o1, k _ _ (ne l1 (by simp)) e1, r1⟩, ⟨o2, k _ _ (ne l2 (by simp)) e2, r2⟩⟩
  item := fun A E s i Q hi hqs S fin => by
    have h1 : i < xs.size := by omega
    have h2 : i < ys.size := by omega
    have hx : xs[i]? = some (xs.getD i .none) := by simp [h1]
    have hy : ys[i]? = some (ys.getD i .none) := by simp [h2]
    have lift : ∀ g : Heap, (∀ c o, c ≠ z → c ≠ TO → c ≠ i1 → c ≠ i2 → s.heap.get? c = some o → g.get? c = some o) → g.IsTuple l1 xs ∧ g.IsTuple l2 ys ∧ IsPair g TI (.ref i1) (.ref i2) := fun g k => by
      obtain ⟨o1, e1, r1⟩ := S.q1
      obtain ⟨o2, e2, r2⟩ := S.q2
      exact ⟨⟨o1, k _ _ D.l1z D.l1TO D.l1i1 D.l1i2 e1, r1⟩, ⟨o2, k _ _ D.l2z D.l2TO D.l2i1 D.l2i2 e2, r2⟩, k _ _ D.TIz D.TITO D.TIi1 D.TIi2 S.ti⟩
    have big : s.heap.objs.size ∉ [z, TI, TO, i1, i2] := fun hb => by
      have e' : s.heap.objs.size = z ∨ s.heap.objs.size = TI ∨ s.heap.objs.size = TO ∨ s.heap.objs.size = i1 ∨ s.heap.objs.size = i2 := by simpa using hb
      rcases e' with e | e | e | e | e
      · obtain ⟨u, e2, _⟩ := out_zip S.out
        exact big_ne (Heap.lt_size e2) e
      · exact big_ne (Heap.lt_size S.ti) e
      · obtain ⟨x, y, e2⟩ := S.to
        exact big_ne (Heap.lt_size e2) e
      · obtain ⟨o, e2, _⟩ := S.p1
        exact big_ne (Heap.lt_size e2) e
      · obtain ⟨o, e2, _⟩ := S.p2
        exact big_ne (Heap.lt_size e2) e
    rcases S.out with ⟨e0, o⟩ | ⟨T, f, oT, o0, o1, o2, o3, o4⟩
    · obtain ⟨x0, y0, hTO⟩ := S.to
      refine RZ.pyNext_zipT_item D o S.ti hTO S.p1 S.p2 S.q1 S.q2 hx hy fun g z' TO' p1 p2 hT hsz k => ?_
      obtain ⟨a1, a2, a3⟩ := lift g k
      exact fin g ⟨.inr ⟨_, false, _, Nat.succ_pos _, z', hT, big, Nat.ne_of_gt hqs⟩, a3, ⟨_, _, TO'⟩, p1, p2, a1, a2⟩ hT fun c o hc => by
        obtain ⟨c1, c2, c3, c4, c5⟩ := apart_ch (l1 := l1) (l2 := l2) hc
        exact k c o c1 c3 c4 c5
    · refine heldT_next o1 o2 ⟨D, S.ti, S.to, S.p1, S.p2, S.q1, S.q2⟩ hx hy fun g z' p1 p2 hT hsz k => ?_
      obtain ⟨a1, a2, a3⟩ := lift g fun c o c1 _ c3 c4 => k c o c1 c3 c4
      obtain ⟨x0, y0, hTO⟩ := S.to
      obtain ⟨t1, t2, t3, t4, t5⟩ := apart_ch (l1 := l1) (l2 := l2) o3
      exact fin g ⟨.inr ⟨T, true, oT, Nat.succ_pos _, z', k _ _ t1 t4 t5 o2, o3, o4⟩, a3, ⟨x0, y0, k _ _ D.TOz D.TOi1 D.TOi2 hTO⟩, p1, p2, a1, a2⟩ hT fun c o hc => by
        obtain ⟨c1, c2, c3, c4, c5⟩ := apart_ch (l1 := l1) (l2 := l2) hc
        exact k c o c1 c4 c5
  stop := fun A E s Q hh S fin => by
    have he : xs[min xs.size ys.size]? = none ∨ ys[min xs.size ys.size]? = none := by
      by_cases c : xs.size ≤ ys.size
      · exact .inl (by rw [Nat.min_eq_left c]; simp)
      · exact .inr (by rw [Nat.min_eq_right (by omega)]; simp)
    rcases S.out with ⟨e0, o⟩ | ⟨T, f, oT, o0, o1, o2, o3, o4⟩
    · obtain ⟨x0, y0, hTO⟩ := S.to
      refine RZ.pyNext_zipT_end hh D o S.ti hTO S.p1 S.p2 S.q1 S.q2 he fun g k => fin g fun c o hc => ?_
      obtain ⟨c1, c2, c3, c4, c5⟩ := apart_ch (l1 := l1) (l2 := l2) hc
      exact k c o c1 c3 c4 c5
    · refine heldT_stop hh o1 o2 ⟨D, S.ti, S.to, S.p1, S.p2, S.q1, S.q2⟩ he fun g k => fin g fun c o hc => ?_
      obtain ⟨c1, c2, c3, c4, c5⟩ := apart_ch (l1 := l1) (l2 := l2) hc
      exact k c o c1 c4 c5
  iter := fun A E s Q S h => out_iter S.out h
end ZL
namespace ZL
open PySem PySem.Spec PyProof.Rows L2
section
variable {X : Cx} {pins : List (Addr × Obj)} {σ : L2.St} {H : Hp} {s : Shared}
theorem zip_hint {M : Model} {A : Around} {E : Value → Shared → Prop} {Q : Bool → Shared → Prop} {z : Addr} (hT : s.TypeIs (.ref z) "zip") (h : Q true s) : wpAny M A (Builtin.List.listLengthHint (.ref z)) Q E s := by
  unfold Builtin.List.listLengthHint specialOf
  refine wpAny_bind (wpAny_bind (wpAny_typeOf hT ?_))
  rw [zip_no_len]
  refine wpAny_pure ?_
  refine PySem.W.KFB.if_not rfl ?_
  refine PySem.W.KFB.if_not rfl ?_
  refine wpAny_bind (wpAny_bind (wpAny_typeOf hT ?_))
  rw [zip_no_hint]
  exact wpAny_pure (wpAny_pure h)
/-- list(z) of a zip that has just been made -/
theorem list_zip {z : Addr} {ch : List Addr} {n : Nat} {us : Nat → Value × Value} {vs : Nat → V × V} {Z : Addr → Nat → Heap → Prop} {Q : Value → Shared → Prop} {E : Value → Shared → Prop} (hc : X.A.handled = none) (I : Inv X pins σ H s)
    (zw : ∀ q, s.heap.objs.size ≤ q → ZW X.prog X.w z q ch n us (Z q)) (hz : ∀ q, s.heap.objs.size ≤ q → Z q 0 s.heap) (hf : ∀ b ∈ ch, FpOk X pins H b) (hzl : z < s.heap.objs.size)
    (rel : ∀ i, i < n → L2.RelV (vs i).1 (us i).1 ∧ L2.RelV (vs i).2 (us i).2) (hn : n ≤ sizeLine)
    (fin : ∀ (q : Addr) (ps : List Addr) (H2 : Hp) (s' : Shared), Inv X pins σ H2 s' → (∀ c o, H c = some o → H2 c = some o) → H q = none → H2 q = some (.lst (ps.map V.ref)) → ps.length = n →
      (∀ (i : Nat) (p : Addr), ps[i]? = some p → H2 p = some (.tup [(vs i).1, (vs i).2])) → Q (.ref q) s') :
    wpAny (model X.prog X.w) X.A (call (.type "list") [.ref z]) Q E s := by
  refine callType_codes (Q₁ := fun obj s₁ => obj = .ref s.heap.objs.size ∧ s₁ = { s with heap := s.heap.push { cls := .type "list", data := .seq #[] } }) PySem.F.called_list (PySem.F.typeCall_list_1 _) PySem.F.entry_list_init
    (code_list_new _ ⟨rfl, rfl⟩) fun obj s₁ h₁ => ?_
  obtain ⟨rfl, rfl⟩ := h₁
  have hS : (s.heap.push { cls := .type "list", data := .seq #[] }).get? s.heap.objs.size = some { cls := .type "list", data := .seq #[] } := Heap.get?_push_size _ rfl
  refine ⟨⟨_, hS, rfl⟩, PySem.F.args_list_init_2 _ _, ?_⟩
  have fr : H s.heap.objs.size = none := I.hok.fresh (Nat.le_refl _)
  have I1 : Inv X pins σ (upd H s.heap.objs.size (.lst [])) { s with heap := s.heap.push { cls := .type "list", data := .seq #[] } } := I.lnew (its := []) (t' := s.toks) .nil (Nat.zero_le _)
  show wpAny _ _ (Builtin.List.listItems (.ref s.heap.objs.size) >>= fun old => Builtin.List.listUpdate (.ref s.heap.objs.size) (fun _ => #[]) >>= fun _ => letGo old.toList.reverse >>= fun _ => Builtin.List.listExtendWith (.ref s.heap.objs.size) (.ref z) .none) _ _ _
  refine wpAny_bind ?_
  unfold Builtin.List.listItems
  refine wpAny_bind (wpAny_seqItems hS rfl (wpAny_pure ?_))
  show wpAny _ _ (updateSeq s.heap.objs.size (fun _ => #[]) >>= fun _ => letGo (#[] : Array Value).toList.reverse >>= fun _ => Builtin.List.listExtendWith (.ref s.heap.objs.size) (.ref z) .none) _ _ _
  refine wpAny_bind (wpAny_updateSeq hS rfl ?_)
  have I2 := I1.lset (f := fun _ => #[]) (its := []) (its' := []) (ys := []) (t' := s.toks) upd_same hS rfl .nil (Nat.zero_le _)
  rw [upd_upd] at I2
  have Zq := zw s.heap.objs.size (Nat.le_refl _)
  have hlt0 : ∀ b ∈ ch, b < s.heap.objs.size := fun b hb => Zq.lt 0 _ (hz _ (Nat.le_refl _)) b hb
  generalize hq : s.heap.objs.size = q at *
  have Z0 : Z q 0 ((s.heap.push { cls := .type "list", data := .seq #[] }).update q (Obj.mapSeq fun _ => #[])) := Zq.keep 0 _ _ (hz q (Nat.le_refl _)) fun c o hcq e => (Heap.get?_update_other _ _ (Ne.symm hcq)).trans (Heap.get?_push_of_some _ e)
  refine wpAny_bind (wpAny_letGo ?_)
  have hzq : q ≠ z := Nat.ne_of_gt hzl
  generalize hs2 : ({ s with heap := (s.heap.push { cls := .type "list", data := .seq #[] }).update q (Obj.mapSeq fun _ => #[]) } : Shared) = s2 at *
  have Z2 : Z q 0 s2.heap := by rw [← hs2]; exact Z0
  have I3 : Inv X pins σ (upd H q (.lst [])) s2 := I2
  obtain ⟨oz, ez, cz⟩ := Zq.ty 0 _ Z2
  have hT : s2.TypeIs (.ref z) "zip" := ⟨oz, ez, cz⟩
  have hlt : ∀ b ∈ ch, b < q := hlt0
  have F3 : ∀ b ∈ ch, FpOk X pins (upd H q (.lst [])) b := fun b hb => fp_keep (hf b hb) (by rw [upd_ne (Nat.ne_of_lt (hlt b hb))]; exact (hf b hb).1)
  have hin : X.A.in1.in1.handled = none := hc
  -- the loop
  have go : ∀ s3, Inv X pins σ (upd H q (.lst [])) s3 → Z q 0 s3.heap → codeAny (model X.prog X.w) X.A.in1 (.builtin "list.extend.loop" ⟨[.ref q, .ref z, .none], []⟩) (wants (fun r s₂ => r = .none ∧ Q (.ref q) s₂) E) s3 := fun s3 I4 Z4 => by
    refine zl_loop (Pv := fun i acc H2 => H q = none ∧ (∀ c o, H c = some o → H2 c = some o) ∧ ∃ ps : List Addr, acc = ps.map V.ref ∧ ps.length = i ∧ ∀ (j : Nat) (p : Addr), ps[j]? = some p → H2 p = some (.tup [(vs j).1, (vs j).2])) Zq hin rel hn ?_ ?_ n 0 [] _ s3 (by omega) rfl I4 Z4 F3 upd_same ⟨fr, fun c o e => by rw [upd_ne (ne_of_none e fr)]; exact e, [], rfl, rfl, fun j p e => by simp at e⟩
    · rintro i acc H2 p hi ⟨h1, h2, ps, rfl, hl, h3⟩ hq2 hp
      have hpq : p ≠ q := fun e => by rw [e, hq2] at hp; cases hp
      refine ⟨h1, fun c o e => ?_, ps ++ [p], by simp, by simp [hl], fun j p' e => ?_⟩
      · rw [upd_ne (ne_of_none e h1), upd_ne (ne_of_none (h2 c o e) hp)]
        exact h2 c o e
      · by_cases hj : j < ps.length
        · rw [List.getElem?_append_left hj] at e
          have h4 := h3 j p' e
          have hp'q : p' ≠ q := fun z' => by rw [z', hq2] at h4; cases h4
          rw [upd_ne hp'q, upd_ne (ne_of_none h4 hp)]
          exact h4
        · have hj' : j = ps.length := by
            have := (List.getElem?_eq_some_iff.mp e).1
            simp at this; omega
          subst hj'
          simp at e
          subst e
          rw [upd_ne hpq, upd_same, hl]
    · rintro acc H2 s4 I5 ⟨h1, h2, ps, rfl, hl, h3⟩ hq2
      exact ⟨rfl, fin q ps H2 s4 I5 h2 h1 hq2 hl h3⟩
  unfold Builtin.List.listExtendWith
  refine wpAny_bind (wpAny_typeOf hT ?_)
  have h1 : Builtin.List.listSameRef (.ref q) (.ref z) = false := by simp [Builtin.List.listSameRef, hzq]
  have h2 : (Value.type "zip" == Value.type "list") = false := by decide
  have h3 : (Value.type "zip" == Value.type "tuple") = false := by decide
  simp only [h1, h2, h3, Bool.or_false, Bool.false_eq_true, if_false]
  refine wpAny_bind (Zq.iter _ _ s2 _ Z2 ?_)
  refine wpAny_bind (wpAny_holding (zip_hint hT ?_))
  refine wpAny_ite_split (fun _ => ?_) (fun _ => wpAny_pure ⟨plainId_quiet PySem.F.plain_extend_loop _, go s2 I3 Z2⟩)
  refine wpAny_bind (wpAny_rule ?_)
  refine wpAny_bind ?_
  show wpAny _ _ (updateSeq q (·.push .none) >>= fun _ => updateSeq q (·.pop)) _ _ _
  obtain ⟨z0, its, k, r3, hl3, e3⟩ := I3.lstM upd_same
  cases r3
  refine wpAny_bind (wpAny_updateSeq e3 rfl ?_)
  have J2 := I3.lset (f := (·.push Value.none)) (its' := [Value.none]) (ys := [.non]) (t' := s2.toks) upd_same e3 (by simp) (.cons rfl .nil) (by rw [List.length_singleton, sizeLine_eq]; decide)
  obtain ⟨z4, its4, k4, r4, hl4, e4⟩ := J2.lstM upd_same
  obtain ⟨u4, rfl, ru4⟩ := r4.one
  refine wpAny_updateSeq e4 rfl ?_ (by show 1 ≤ sizeLine; rw [sizeLine_eq]; decide) (by show 0 ≤ sizeLine + 1; exact Nat.zero_le _)
  refine wpAny_pure ⟨plainId_quiet PySem.F.plain_extend_loop _, go _ ?_ ?_⟩
  · have J3 := J2.lset (f := (·.pop)) (its := [u4]) (its' := []) (ys := []) (t' := s2.toks) upd_same e4 (by rfl) .nil (Nat.zero_le _)
    rw [upd_upd, upd_upd] at J3
    exact J3
  · exact Zq.keep 0 _ _ Z2 fun c o hcq e => (Heap.get?_update_other _ _ (Ne.symm hcq)).trans ((Heap.get?_update_other _ _ (Ne.symm hcq)).trans e)
end
end ZL
/-! enumerate(a tuple), enumerate(a text) -/
namespace EN
open PySem PySem.Spec PyProof.Rows L2
open Sem (wp)
open AutoSeq1 (wpAny_loadPart')
set_option maxHeartbeats 2000000 in
theorem new_of {x : Value} {ob : Obj} {S : Heap → Prop} (B : Begins x ob S) : Meets (Builtin.«enumerate.__new__» ⟨[.type "enumerate", x], []⟩) (fun _ R st => S st.heap ∧
    R (.ok (.ret (.ref (st.heap.push ob).objs.size))) { st with heap := (st.heap.push ob).push { cls := .type "enumerate", data := .fields #[.none, .bool false, .ref st.heap.objs.size, rawInt 0, .none, .none] } }) :=
  Meets.of_wp fun prog w A R st hx => by
    obtain ⟨hp, g, d, tk, os⟩ := st
    obtain ⟨h1, hx⟩ := hx
    have hsub := sub_enumerate
    have q1 : ∀ {A' : Around} {E : Value → Shared → Prop} {Q : Value → Shared → Prop}, Q (.ref hp.objs.size) ⟨hp.push ob, g, d, tk, os⟩ → wpAny (model prog w) A' (pyIter x) Q E ⟨hp, g, d, tk, os⟩ := fun q =>
      B.iter prog w _ _ ⟨hp, g, d, tk, os⟩ _ h1 q
    wp_walk using q1
    refine wpAny_stack_any fun _ => wpAny_pure ?_
    split
    · rename_i cl _ _ _ _ _
      cases (cl == Value.type "enumerate") <;>
        · wp_walk using q1
          exact ⟨_, rfl, hx⟩
    · wp_walk using q1
      exact ⟨_, rfl, hx⟩
section
variable {prog : Program} {w : World} {A : Around} {E : Value → Shared → Prop} {st : Shared}
theorem call_of {x : Value} {ob : Obj} {S : Heap → Prop} {Q : Value → Shared → Prop} (B : Begins x ob S) (h1 : S st.heap)
    (hq : ∀ h', IsEnum h' (st.heap.objs.size + 1) st.heap.objs.size 0 .none → h'.get? st.heap.objs.size = some ob → h'.objs.size = st.heap.objs.size + 2 → (∀ c u, st.heap.get? c = some u → h'.get? c = some u) →
      Q (.ref (st.heap.objs.size + 1)) { st with heap := h' }) : wpAny (model prog w) A (call (.type "enumerate") [x]) Q E st := by
  refine callType_new F.called_enumerate (by decide) (F.typeCall_enumerate_1 _) (F.newCall_enumerate_1 _) (fun obj => F.args_object_init_2 obj _) F.entry_enumerate_new (new_of B) ⟨h1, ?_⟩
  have hz : (st.heap.push ob).objs.size = st.heap.objs.size + 1 := Heap.size_push ..
  show _ ∧ _
  rw [hz]
  have he : IsEnum ((st.heap.push ob).push { cls := .type "enumerate", data := .fields #[.none, .bool false, .ref st.heap.objs.size, rawInt 0, .none, .none] }) (st.heap.objs.size + 1) st.heap.objs.size 0 .none := by
    have e := Heap.get?_push_size (st.heap.push ob) (o := { cls := .type "enumerate", data := .fields #[.none, .bool false, .ref st.heap.objs.size, rawInt 0, .none, .none] }) rfl
    rw [hz] at e
    exact e
  exact ⟨⟨_, he, rfl⟩, hq _ he (Heap.get?_push_of_some _ (Heap.get?_push_size _ B.free)) (by rw [Heap.size_push, hz]) fun c u y => Heap.get?_push_of_some _ (Heap.get?_push_of_some _ y)⟩
end
/-- the tuple at a, each item in a new pair with its place -/
def IteT (K : PySem.W.Frag) (a : Addr) : It where
  go := fun i H => ∃ (xs : List V) (x : V), SqT K H a xs ∧ xs[i]? = some x
  yld := fun i H v H' => ∃ T x, v = .ref T ∧ H T = none ∧ H' = upd H T (.tup [.int (i : Nat), x]) ∧ ∀ xs, SqT K H a xs → xs[i]? = some x
  stop := fun i H => ∃ xs : List V, SqT K H a xs ∧ xs.length = i
theorem turn_enumT {P : Program} {w : World} {K : PySem.W.Frag} {elts : List Expr} {kk : Nat} {tpos : Pos} (a e it : Addr) (ne : a ≠ it) (ne2 : e ≠ a) :
    Turn P w K (.Tuple elts kk tpos) (IteT K a) [e, it] e (fun i h => (∃ old, IsEnum h e it ((i : Nat) : Int) old) ∧ h.IsTupleIter it a i ∧ e ≠ it) where
  mem := List.mem_cons_self
  obj := fun i h st b hb => by
    obtain ⟨⟨old, he⟩, ⟨o, ho, hc, hd⟩, _⟩ := st
    rcases (show b = e ∨ b = it by simpa using hb) with z | z
    · rw [z]; exact ⟨_, he, fun v q => by cases q⟩
    · exact ⟨o, by rw [z]; exact ho, fun v q => by rw [hd] at q; cases q⟩
  keep := fun i h h' st k => by
    obtain ⟨⟨old, he⟩, hi, hne⟩ := st
    exact ⟨⟨old, k e (by simp) _ he⟩, hi.at fun o q => k it (by simp) o q, hne⟩
  item := by
    intro X hP hw hK hc i pins s σ H E I hf st hg
    subst hP hw hK
    obtain ⟨⟨old, he⟩, hit, hne⟩ := st
    obtain ⟨xs, x, hq, hx⟩ := hg
    obtain ⟨its, rv, p, hz⟩ := I.tuple hq
    obtain ⟨u, hu, ru⟩ := rv.get hx
    have hel : e < s.heap.objs.size := Heap.lt_size he
    have hil : it < s.heap.objs.size := by obtain ⟨_, q, _⟩ := hit; exact Heap.lt_size q
    have hlt : i < its.toArray.size := by
      rw [List.size_toArray]; exact (List.getElem?_eq_some_iff.mp hu).1
    refine wpAny_pyNext_enum_itemD (Draws.tuple (show X.A.in1.handled = none from I.ok.hd hc) it a ne its.toArray) he ⟨hit, show s.heap.IsTuple a its.toArray from p⟩ hlt hne (by
      intro hm
      rcases (show e = it ∨ e = a by simpa using hm) with z | z
      · exact hne z
      · exact ne2 z) fun y h' tk hy ho hs' hT hsz hk => ?_
    obtain ⟨hit', hl'⟩ := hs'
    have ey : y = u := by
      have e1 : its[i]? = some y := by simpa using hy
      rw [hu] at e1
      exact (Option.some.inj e1).symm
    subst ey
    refine ⟨_, rfl, wpAny_letOwnedTupleGo_enum (s := { s with heap := h', toks := tk + 1 }) ho fun h'' he' sb => ?_⟩
    have hT2 : h''.get? s.heap.objs.size = some { cls := .type "tuple", data := .seq #[.int i tk, y] } := (sb.2 _ (Nat.ne_of_gt hel)).trans hT
    have new : ObjOk X.prog X.w (upd H s.heap.objs.size (.tup [.int (i : Nat), x])) h'' s.heap.objs.size (.tup [.int (i : Nat), x]) := ⟨by show 2 ≤ sizeLine; decide, [.int i tk, y], .cons ⟨_, rfl⟩ (.cons ru .nil), ⟨_, hT2, rfl, _, rfl⟩⟩
    have I1 : Inv X pins σ (upd H s.heap.objs.size (.tup [.int (i : Nat), x])) { s with heap := h'', toks := tk + 1 } := I.turnedNew (ch := [e, it]) (fun b ob hb q => (sb.2 b (fun z => hb (by simp [z]))).trans (hk b ob (fun z => hb (by simp [z])) (fun z => hb (by simp [z])) q)) hf (Nat.le_refl _) new
    refine ⟨.ref s.heap.objs.size, _, I1, rfl, ⟨_, x, rfl, I.hok.fresh (Nat.le_refl _), rfl, fun ys hy => by rw [I.tuple_inj hy hq]; exact hx⟩, ⟨⟨y, ?_⟩, hit'.at fun o q => (sb.2 it (Ne.symm hne)).trans q, hne⟩, fun b hb => ?_⟩
    · rw [show ((i + 1 : Nat) : Int) = (i : Int) + 1 by omega]; exact he'
    · have hb' : b < s.heap.objs.size := by
        rcases (show b = e ∨ b = it by simpa using hb) with z | z
        · exact z ▸ hel
        · exact z ▸ hil
      rw [upd_ne (Nat.ne_of_lt hb')]
      exact (hf b hb).1
  done := by
    intro X hP hw hK hc i pins s σ H E I hf st hg
    subst hP hw hK
    obtain ⟨⟨old, he⟩, hit, hne⟩ := st
    obtain ⟨xs, hq, hx⟩ := hg
    obtain ⟨its, rv, p, hz⟩ := I.tuple hq
    obtain ⟨f0, f1, f2, f3, f4, f5⟩ := hf it (by simp)
    have ei : i = its.toArray.size := by rw [List.size_toArray, ← rv.length]; exact hx.symm
    subst ei
    exact wpAny_pyNext_enum_endD (Draws.tuple (show X.A.in1.handled = none from I.ok.hd hc) it a ne its.toArray) he ⟨hit, show s.heap.IsTuple a its.toArray from p⟩ fun h' eb => ⟨rfl, I.turned (t' := s.toks) (fun b o hb q => eb b o hb q) f0 f1 f3 f4 f5⟩
  self := fun A i s Q E st h => by
    obtain ⟨⟨_, he⟩, _⟩ := st
    exact wpAny_pyIter_enum he h
def iEnumT (K : PySem.W.Frag) (ta : TA) : TI := fun σ H R => ta σ H fun vs H1 => ∃ a xs, vs = [.ref a] ∧ ((SqL K H1 a xs ∧ R (Ite K a) H1) ∨ (SqT K H1 a xs ∧ R (IteT K a) H1))
/-- enumerate of a list or of a tuple -/
theorem pi_enumU {X : Cx} {e : Expr} {ta : TA} {p pos tpos : Pos} {elts : List Expr} {kk : Nat} (hg : Gl X "enumerate") (hm : X.mg "enumerate" = none) (ha : PA X [e] ta) (hs : starEach [e] X.env = [(false, eval e X.env)] := by rfl) :
    PI X (.Tuple elts kk tpos) (.Call (.Name "enumerate" p) [e] [] pos) (iEnumT X.K ta) := by
  refine ⟨fun pins s σ H R I h => Call_ (ld_blt I hg hm boot_enumerate (PyProof.Rows.callWith_type1 (thn (ha.run pos pins s σ H _ I h) fun us s1 ⟨vs, H1, I1, r1, q1⟩ => ?_) hs rfl))⟩
  obtain ⟨a, xs, ex, q1⟩ := q1
  subst ex
  cases r1 with
  | cons r rr =>
    cases rr
    cases r
    have fresh : ∀ b ∈ [s1.heap.objs.size + 1, s1.heap.objs.size], FpOk X pins H1 b := fun b hb => by
      have hle : s1.heap.objs.size ≤ b := by
        rcases (show b = s1.heap.objs.size + 1 ∨ b = s1.heap.objs.size by simpa using hb) with z | z <;> omega
      exact I1.fpOk hle (I1.hok.fresh hle)
    rcases q1 with ⟨hq, q⟩ | ⟨hq, q⟩
    · obtain ⟨its, rv, p', hz⟩ := I1.list hq
      refine call_enumerate_list p'.isList fun h' he hit hsz hk => wpAny_pyIter_enum he ?_
      have I2 : Inv X pins σ H1 { s1 with heap := h' } := I1.kept (t' := s1.toks) hk
      exact ⟨s1.heap.objs.size + 1, [s1.heap.objs.size + 1, s1.heap.objs.size], _, _, H1, rfl, I2, turn_enum a (s1.heap.objs.size + 1) s1.heap.objs.size, ⟨⟨.none, he⟩, hit, Nat.succ_ne_self _⟩, fresh, q⟩
    · obtain ⟨its, rv, p', hz⟩ := I1.tuple hq
      have hal : a < s1.heap.objs.size := by obtain ⟨o1, ho1, _⟩ := id p'; exact Heap.lt_size ho1
      refine call_of (begins_tuple a its.toArray) (show s1.heap.IsTuple a its.toArray from p') fun h' he hit hsz hk => wpAny_pyIter_enum he ?_
      have I2 : Inv X pins σ H1 { s1 with heap := h' } := I1.kept (t' := s1.toks) hk
      exact ⟨s1.heap.objs.size + 1, [s1.heap.objs.size + 1, s1.heap.objs.size], _, _, H1, rfl, I2, turn_enumT a (s1.heap.objs.size + 1) s1.heap.objs.size (Nat.ne_of_lt hal) (Nat.ne_of_gt (Nat.lt_succ_of_lt hal)), ⟨⟨.none, he⟩, ⟨_, hit, rfl, rfl⟩, Nat.succ_ne_self _⟩, fresh, q⟩
end EN
/-! x[::-1], x a list or a tuple -/
namespace SR
open PySem PySem.Spec PyProof.Rows L2
section
variable {prog : Program} {w : World} {A : Around} {E : Value → Shared → Prop} {s : Shared}
theorem places (n : Nat) : Builtin.Slice.slicePlaces ((n : Int) - 1) (-1) (-1) = n := by
  unfold Builtin.Slice.slicePlaces
  have h1 : ¬ ((-1 : Int) > 0) := by decide
  simp only [h1, if_false]
  have h2 : -(-1 : Int) = 1 := by decide
  rw [h2, Int.ediv_one]
  split <;> omega
theorem applied {sl : Addr} {t : Tok} {n : Nat} {Q : Int × Int × Nat → Shared → Prop} (hs : s.heap.IsSliceOf sl .none .none (.int (-1) t)) (h : Q ((n : Int) - 1, -1, n) s) :
    wpAny (model prog w) A (Builtin.Slice.sliceApplied (.ref sl) (pure (n : Int))) Q E s := by
  obtain ⟨os, hos, hcs, hds⟩ := id hs
  unfold Builtin.Slice.sliceApplied Builtin.Slice.sliceFields
  refine wpAny_bind (wpAny_bind (wpAny_field hos hds (x := .none) rfl (wpAny_bind (wpAny_field hos hds (x := .none) rfl (wpAny_bind (wpAny_field hos hds (x := .int (-1) t) rfl (wpAny_pure ?_)))))))
  refine wpAny_bind (slicePart_int ?_)
  show wpAny _ _ (if ((-1 : Int) == 0) = true then _ else _) _ _ s
  rw [if_neg (by decide)]
  refine wpAny_bind (slicePart_none (wpAny_bind (slicePart_none (wpAny_bind (wpAny_pure ?_)))))
  show wpAny _ _ (pure (((n : Int) - 1), (-1 : Int), Builtin.Slice.slicePlaces ((n : Int) - 1) (-1) (-1))) _ _ s
  rw [places]
  exact wpAny_pure h
theorem fm_congr {α β : Type} {f g : α → Option β} : ∀ {l : List α}, (∀ a ∈ l, f a = g a) → l.filterMap f = l.filterMap g
  | [], _ => rfl
  | a :: r, h => by rw [List.filterMap_cons, List.filterMap_cons, h a List.mem_cons_self, fm_congr fun b m => h b (List.mem_cons_of_mem _ m)]
theorem pick_rev : ∀ (xs : List Value), ((List.range xs.length).filterMap fun (m : Nat) => xs[((xs.length : Int) - 1 + (m : Int) * (-1)).toNat]?) = xs.reverse := by
  intro xs
  have e : ((List.range xs.length).filterMap fun (m : Nat) => xs[((xs.length : Int) - 1 + (m : Int) * (-1)).toNat]?) = (List.range xs.length).filterMap fun m => xs.reverse[m]? := by
    apply fm_congr
    intro m hm
    have hm' : m < xs.length := List.mem_range.mp hm
    rw [List.getElem?_reverse hm', show ((xs.length : Int) - 1 + (m : Int) * (-1)).toNat = xs.length - 1 - m by omega]
  rw [e]
  have q : ∀ l : List Value, (List.range l.length).filterMap (fun m => l[m]?) = l := fun l => by
    induction l with
    | nil => rfl
    | cons a r ih => rw [List.length_cons, List.range_succ_eq_map, List.filterMap_cons, List.filterMap_map]; exact congrArg (a :: ·) ih
  have := q xs.reverse
  rwa [List.length_reverse] at this
theorem item_tup {t sl : Addr} {items : Array Value} {tk : Tok} {Q : Value → Shared → Prop} (ht : IsTup s.heap t items) (hs : s.heap.IsSliceOf sl .none .none (.int (-1) tk))
    (h : Q (.ref s.heap.objs.size) { s with heap := s.heap.push { cls := .type "tuple", data := .seq items.toList.reverse.toArray } }) (hsz : items.size ≤ sizeLine) : wpAny (model prog w) A (getItem (.ref t) (.ref sl)) Q E s := by
  have htake : sizeOk (.seq items.toList.reverse.toArray) := by
    show items.toList.reverse.toArray.size ≤ sizeLine
    rw [List.size_toArray, List.length_reverse, Array.length_toList]; exact hsz
  obtain ⟨os, hos, hcs, hds⟩ := id hs
  have hTs : s.TypeIs (.ref sl) "slice" := ⟨os, hos, hcs⟩
  unfold getItem
  try with_reducible refine wpAny_holding ?_
  first | refine wpAny_bind (wpAny_pure ?_) | skip
  refine wpAny_bind (wpAny_sequenceKey ht.typeIs (by decide) ?_)
  refine wpAny_bind (wpAny_callSpecial?_slot (name := Str.ofString "__getitem__") ht.typeIs PyProof.Rows.slot_tuple_getitem (wpAny_call_entry PyProof.Rows.slot_tuple_getitem ht.typeIs entry_tuple_getitem ?_ (args_tuple_getitem _ _)))
  show wpAny _ _ (Builtin.Tuple.tupleItemsOf (.ref t) >>= _) _ _ s
  refine wpAny_bind (tupleItemsOf_ ht ?_)
  refine wpAny_bind (wpAny_typeOf hTs ?_)
  rw [if_pos (by decide)]
  refine wpAny_bind (applied (n := items.size) hs ?_)
  have hno : ¬ ((((items.size : Int) - 1) == 0 && (-1 : Int) == 1 && items.size == items.size) = true) := by
    rw [show ((-1 : Int) == 1) = false from rfl, Bool.and_false, Bool.false_and]; exact Bool.false_ne_true
  show wpAny _ _ (if (((items.size : Int) - 1) == 0 && (-1 : Int) == 1 && items.size == items.size) = true then _ else _) _ _ s
  rw [if_neg hno]
  have hp : ((List.range items.size).filterMap fun (m : Nat) => items[((items.size : Int) - 1 + (m : Int) * (-1)).toNat]?).toArray = items.toList.reverse.toArray := by
    congr 1
    have := pick_rev items.toList
    simp only [Array.length_toList, Array.getElem?_toList] at this
    exact this
  rw [hp]
  first
    | exact wpAny_bind (m := Builtin.Tuple.tupleExact _) (wpAny_newObj_type (wpAny_pure ⟨_, rfl, wpAny_pure h⟩) htake)
    | exact wpAny_bind (m := Builtin.Tuple.tupleExact _) (wpAny_newObj_type (wpAny_bind (wpAny_pure (wpAny_pure ⟨_, rfl, wpAny_pure h⟩))) htake)
    | exact wpAny_bind (wpAny_bind (m := Builtin.Tuple.tupleExact _) (wpAny_newObj_type (wpAny_pure (wpAny_pure ⟨_, rfl, wpAny_pure h⟩)) htake))
    | exact wpAny_bind (wpAny_bind (m := Builtin.Tuple.tupleExact _) (wpAny_newObj_type (wpAny_pure ⟨_, rfl, wpAny_pure h⟩) htake))
end
theorem pick_list (items : Array Value) : slicePick items none none (some (-1)) = items.toList.reverse.toArray := by
  unfold slicePick
  have hb : sliceBounds none none (some (-1)) items.size = ((items.size : Int) - 1, -1, -1) := rfl
  rw [hb]
  congr 1
  show (sliceRange ((items.size : Int) - 1) (-1) (-1)).filterMap _ = _
  unfold sliceRange
  have hc : ((if (-1 : Int) > 0 then (if (items.size : Int) - 1 < -1 then (-1 - ((items.size : Int) - 1) + -1 - 1) / -1 else 0) else (if (items.size : Int) - 1 > -1 then ((items.size : Int) - 1 - -1 - -1 - 1) / (- -1) else 0)) : Int).toNat = items.size := by
    have h1 : ¬ ((-1 : Int) > 0) := by decide
    simp only [h1, if_false]
    have h2 : -(-1 : Int) = 1 := by decide
    rw [h2, Int.ediv_one]
    split <;> omega
  simp only [hc]
  rw [List.filterMap_map]
  have := pick_rev items.toList
  simp only [Array.length_toList, Array.getElem?_toList] at this
  rw [← this]
  apply fm_congr
  intro m hm
  show items[((items.size : Int) - 1 + -1 * (m : Int)).toNat]? = _
  rw [Int.mul_comm]
section
variable {X : Cx}
def kRev (K : PySem.W.Frag) : V → Hp → VK → Prop := fun x H Q => ∃ a xs, x = .ref a ∧ ((SqT K H a xs ∧ ∀ p, H p = none → Q (.ref p) (upd H p (.tup xs.reverse))) ∨ (SqL K H a xs ∧ ∀ p, H p = none → Q (.ref p) (upd H p (.lst xs.reverse))))
theorem vals_rev : ∀ {xs : List V} {us : List Value}, Vals xs us → Vals xs.reverse us.reverse := by
  intro xs us r
  have hl := r.length
  induction xs generalizing us with
  | nil => cases r; exact .nil
  | cons x xs ih =>
    cases r with
    | cons r1 r2 =>
      rw [List.reverse_cons, List.reverse_cons]
      exact (ih r2 r2.length).append (.cons r1 .nil)
theorem pe_rev {e st : Expr} {te ts : TE} {pos p2 : Pos} (he : PE X e te) (hst : PE X st ts) {ops : Value → Value → List Value} (hsb : ∀ v u, subscripted (.Slice none none (some st) p2) false v u = operate (ops v u) (getItem v u)) : PE X (.Subscript e (.Slice none none (some st) p2) pos) (fun σ H Q => te σ H fun x H1 => ts σ H1 fun y H2 => y = .int (-1) ∧ kRev X.K x H2 Q) := by
  refine ⟨fun pins s σ H Q I h => ?_⟩
  refine Subscript_ (thn (he.run pins s σ H _ I h) fun v s1 ⟨x, H1, I1, r1, q1⟩ => ?_)
  refine wpAny_Slice ?_
  simp only [evalPart_none]
  refine wpAny_pure (wpAny_pure ?_)
  rw [evalPart_some]
  refine thn (hst.run pins s1 σ H1 _ I1 q1) fun u s3 ⟨y, H3, I3, r3, ey, a, xs, ex, q3⟩ => ?_
  subst ey ex
  obtain ⟨tk, rfl⟩ := r3
  obtain rfl : v = Value.ref a := r1
  have I4 : Inv X pins σ H3 { s3 with heap := s3.heap.push { cls := .type "slice", data := .fields #[.none, .none, .int (-1) tk] } } := I3.kept (t' := s3.toks) fun b ob q => Heap.get?_push_of_some _ q
  have hsl : Heap.IsSliceOf (s3.heap.push { cls := .type "slice", data := .fields #[.none, .none, .int (-1) tk] }) s3.heap.objs.size .none .none (.int (-1) tk) := Heap.IsSliceOf.new ..
  show wpAny (model X.prog X.w) X.A (subscriptTail e (.Slice none none (some st) p2) (.ref a) (.ref s3.heap.objs.size)) (EP X pins σ Q) X.xe { s3 with heap := s3.heap.push { cls := .type "slice", data := .fields #[.none, .none, .int (-1) tk] } }
  rcases q3 with ⟨hx, q⟩ | ⟨hx, q⟩
  · obtain ⟨its, r, ht, hz⟩ := I4.tuple hx
    refine tail_any ht.typeIs PyProof.Rows.slot_tuple_getitem.lookup (item_tup ht hsl ?_ (by rw [List.size_toArray, ← r.length]; exact hz)) (hsb _ _)
    refine ⟨.ref (s3.heap.push { cls := .type "slice", data := .fields #[.none, .none, .int (-1) tk] }).objs.size, _, I4.laid (t' := s3.toks) (o := .tup xs.reverse) (fun b ob q => Heap.get?_push_of_some _ q) (Nat.le_refl _) ?_, rfl, q _ (I4.hok.fresh (Nat.le_refl _))⟩
    exact ⟨by rw [List.length_reverse]; exact hz, _, vals_rev r, IsTup.new _ _⟩
  · obtain ⟨its, r, pl, hz⟩ := I4.list hx
    refine tail_any pl.isList.typeIs list_getitem_lookup (wpAny_getItem_list_slice (lo := none) (hi := none) (st := some (-1)) pl.isList hsl .none .none (.int (-1) tk) (by simp) ?_ (by rw [List.size_toArray, ← r.length]; exact hz)) (hsb _ _)
    rw [pick_list]
    refine ⟨.ref (s3.heap.push { cls := .type "slice", data := .fields #[.none, .none, .int (-1) tk] }).objs.size, _, I4.laid (t' := s3.toks) (o := .lst xs.reverse) (fun b ob q => Heap.get?_push_of_some _ q) (Nat.le_refl _) ?_, rfl, q _ (I4.hok.fresh (Nat.le_refl _))⟩
    exact ⟨by rw [List.length_reverse]; exact hz, _, 0, vals_rev r, Heap.get?_push_size _ rfl⟩
end
end SR
/-! sorted(xs), xs a list of plain data, any number of them -/
namespace SD
open PySem PySem.Spec PyProof.Rows L2
open PySem.W (EachIs AllAlike Sortable dataLe)
theorem each_pairs : ∀ {bs : List (V × PyData)} {its : List Value}, Vals (bs.map Prod.fst) its → EachIs (fun v (p : V × PyData) => RelV p.1 v) its bs
  | [], its, r => by
    rw [List.map_nil] at r
    cases r
    exact .nil
  | p :: bs, its, r => by
    rw [List.map_cons] at r
    cases r with
    | cons r1 r2 => exact .cons r1 (each_pairs r2)
theorem pairs_vals : ∀ {bs : List (V × PyData)} {out : List Value}, EachIs (fun v (p : V × PyData) => RelV p.1 v) out bs → Vals (bs.map Prod.fst) out
  | _, _, .nil => .nil
  | _, _, .cons h t => .cons h (pairs_vals t)
def rSortDp (K : PySem.W.Frag) : List V → Hp → VK → Prop := fun xs H Q => ∃ (a : Addr) (bs : List (V × PyData)), xs = [V.ref a] ∧ SqL K H a (bs.map Prod.fst) ∧ (∀ p ∈ bs, Dp K H p.1 p.2) ∧ AllAlike (bs.map Prod.snd) ∧ Sortable (bs.map Prod.snd) ∧ (∀ p ∈ bs, p.2.depth ≤ 60) ∧
  ∀ q, H q = none → Q (.ref q) (upd H q (.lst ((bs.mergeSort (dataLe false Prod.snd)).map Prod.fst)))
variable {X : Cx}
theorem cr_sortedDp (hu : X.A.units + 64 < cLine) : CallR X (.builtin "sorted") (rSortDp X.K) := by
  intro pins s σ H vs us Q I r h
  obtain ⟨a, bs, rfl, hs, hd, hal, hk, hdep, q⟩ := h
  obtain ⟨its, rv, hl, hz⟩ := I.list hs
  rw [Vals.ref1 r]
  have e := each_pairs rv
  have er : EachIs (fun v (p : V × PyData) => ∃ as, Reads s.heap v p.2 as) its bs := by
    have go : ∀ {bs : List (V × PyData)} {its : List Value}, (∀ p ∈ bs, Dp X.K H p.1 p.2) → EachIs (fun v (p : V × PyData) => RelV p.1 v) its bs → EachIs (fun v (p : V × PyData) => ∃ as, Reads s.heap v p.2 as) its bs := by
      intro bs its hd e
      induction e with
      | nil => exact .nil
      | cons h t ih => exact .cons (Dp.reads I _ _ _ (hd _ List.mem_cons_self) h) (ih fun p m => hd p (List.mem_cons_of_mem _ m))
    exact go hd e
  have hlen : bs.length ≤ sizeLine := by rw [List.length_map] at hz; exact hz
  refine PySem.W.sorted_data (enc := Prod.snd) hl.isList e er hal hk hlen (fun p hp => by have := hdep p hp; omega) fun out h1 h2 => ?_
  obtain ⟨ep, he'⟩ := PyProof.Rows.sortedAll_at s.heap its out.toArray
  have hlen2 : ((bs.mergeSort (dataLe false Prod.snd)).map Prod.fst).length ≤ sizeLine := by
    rw [List.length_map, List.length_mergeSort]; exact hlen
  exact ⟨.ref _, upd H (s.heap.objs.size + 1) (.lst ((bs.mergeSort (dataLe false Prod.snd)).map Prod.fst)), I.laid (t' := s.toks) (fun _ _ => PyProof.Rows.sortedAll_old) (Nat.le_succ _) ⟨hlen2, out, ep, pairs_vals h2, he'⟩, rfl, q _ (I.hok.fresh (Nat.le_succ _))⟩
end SD
/-! min(xs), max(xs) over a list or a tuple of plain data, any number of them -/
namespace MM
open PySem PySem.Spec PyProof.Rows L2
open PySem.W (AlikeAll minD maxD min_list_data min_tuple_data max_list_data max_tuple_data readsAll_at)
theorem ix_of {h : Heap} {us : List Value} {ds : List PyData} {as : List Addr} (rs : ReadsAll h us ds as) {i : Nat} {u : Value} (e : us[i]? = some u) : ∃ d bs, ds[i]? = some d ∧ Reads h u d bs := by
  obtain ⟨bs, r, hi, _, _⟩ := readsAll_at rs i u e
  refine ⟨_, bs, ?_, r⟩
  rw [List.getD_eq_getElem?_getD, List.getElem?_eq_getElem hi]
  rfl
theorem lay_at : ∀ {ds : List PyData} {i : Nat} {d : PyData}, PyData.canLayAll0 ds = true → ds[i]? = some d → d.canLay0 = true
  | [], i, d, _, e => by simp at e
  | x :: r, 0, d, h, e => by
    cases e
    rw [PyData.canLayAll0, Bool.and_eq_true] at h
    exact h.1
  | x :: r, i + 1, d, h, e => by
    rw [PyData.canLayAll0, Bool.and_eq_true] at h
    exact lay_at (i := i) h.2 e
def rBest (K : PySem.W.Frag) (best : PyData → List PyData → PyData) : List V → Hp → VK → Prop := fun xs H Q => ∃ (a : Addr) (vs : List V) (y : PyData) (ys : List PyData), xs = [V.ref a] ∧ (SqL K H a vs ∨ SqT K H a vs) ∧ DpAll K H vs (y :: ys) ∧ PyData.canLayAll0 (y :: ys) = true ∧ AlikeAll (y :: ys) ∧ PyData.depthAll (y :: ys) ≤ 60 ∧
  ∀ (i : Nat) (v : V) (d : PyData), vs[i]? = some v → (y :: ys)[i]? = some d → d = best y ys → Q v H
variable {X : Cx}
theorem back {pins : List (Addr × Obj)} {σ : List (Option V)} {H : Hp} {s : Shared} {vs : List V} {us : List Value} {y b : PyData} {ys : List PyData} {as bs : List Addr} {Q : VK} {i : Nat} {v : Value} {h' : Heap} {tk : Nat} (I : L2.Inv X pins σ H s) (rv : Vals vs us) (rs : ReadsAll s.heap us (y :: ys) as) (hl : PyData.canLayAll0 (y :: ys) = true)
    (q : ∀ (i : Nat) (v : V) (d : PyData), vs[i]? = some v → (y :: ys)[i]? = some d → d = b → Q v H) (e : us.toArray[i]? = some v) (r : Reads h' v b bs) (k : ∀ b o, s.heap.get? b = some o → h'.get? b = some o) : ∃ (x : V) (H' : Hp), L2.Inv X pins σ H' { s with heap := h', toks := tk } ∧ RelV x v ∧ Q x H' := by
  have e : us[i]? = some v := by rw [← e]; simp
  obtain ⟨d, cs, ed, rd⟩ := ix_of rs e
  have un := PySem.SeqAt.Reads.unique d b v _ _ (lay_at hl ed) (PyProof.Rows.Reads.keeps k rd) r
  cases ev : vs[i]? with
  | none => have := rv.none_of ev; rw [this] at e; cases e
  | some x =>
    obtain ⟨u, e2, rx⟩ := rv.get ev
    rw [e] at e2
    cases e2
    exact ⟨x, H, I.kept k, rx, q i x d ev ed un⟩
theorem cr_minDp (hc : X.calm = true) (hu : X.A.units + 64 < cLine) : CallR X (.builtin "min") (rBest X.K minD) := by
  intro pins s σ H vs us Q I r h
  obtain ⟨a, vs, y, ys, rfl, hs, hd, hl, ha, hdep, q⟩ := h
  rw [Vals.ref1 r]
  rcases hs with hs | hs
  · obtain ⟨its, rv, hp, hz⟩ := I.list hs
    obtain ⟨as, rs⟩ := Dp.readsAll I _ _ _ hd rv
    exact min_list_data (I.ok.hd hc) hp.isList rs ha (by omega) fun i v h' tk bs e r k => back I rv rs hl q e r k
  · obtain ⟨its, rv, hp, hz⟩ := I.tuple hs
    obtain ⟨as, rs⟩ := Dp.readsAll I _ _ _ hd rv
    exact min_tuple_data (I.ok.hd hc) hp rs ha (by omega) fun i v h' tk bs e r k => back I rv rs hl q e r k
theorem cr_maxDp (hc : X.calm = true) (hu : X.A.units + 64 < cLine) : CallR X (.builtin "max") (rBest X.K maxD) := by
  intro pins s σ H vs us Q I r h
  obtain ⟨a, vs, y, ys, rfl, hs, hd, hl, ha, hdep, q⟩ := h
  rw [Vals.ref1 r]
  rcases hs with hs | hs
  · obtain ⟨its, rv, hp, hz⟩ := I.list hs
    obtain ⟨as, rs⟩ := Dp.readsAll I _ _ _ hd rv
    exact max_list_data (I.ok.hd hc) hp.isList rs ha (by omega) fun i v h' tk bs e r k => back I rv rs hl q e r k
  · obtain ⟨its, rv, hp, hz⟩ := I.tuple hs
    obtain ⟨as, rs⟩ := Dp.readsAll I _ _ _ hd rv
    exact max_tuple_data (I.ok.hd hc) hp rs ha (by omega) fun i v h' tk bs e r k => back I rv rs hl q e r k
end MM
/-! A functional layer over HandS: plain data D, a local heap of numbered objects, each construct as a Lean function with its soundness. -/
namespace PF
open PySem PySem.Spec PyProof.Rows L2

/-- plain data; ref: a local object by its number; scr: the script -/
inductive D where
  | non | bl (b : Bool) | int (i : Int) | str (s : List Nat) | tup (xs : List D) | lst (xs : List D) | ref (n : Nat) | scr (ns : List Int)

inductive Ob where
  | lst (xs : List D) | dct (kvs : List (D × D))

structure Er where
  cls : List Nat
  fs : List (List Nat × D)

abbrev En := List (Option D)
abbrev Hs := List Ob

inductive R (α : Type) where
  | ok (a : α) (h : Hs) | er (e : Er) (env : En) (h : Hs) | no

def R.bnd {α β : Type} (m : R α) (f : α → Hs → R β) : R β := match m with
  | .ok a h => f a h
  | .er e v h => .er e v h
  | .no => .no
@[simp] theorem bnd_ok {α β : Type} (a : α) (h : Hs) (f : α → Hs → R β) : (R.ok a h).bnd f = f a h := rfl
@[simp] theorem bnd_er {α β : Type} (e : Er) (v : En) (h : Hs) (f : α → Hs → R β) : (R.er e v h : R α).bnd f = .er e v h := rfl
@[simp] theorem bnd_no {α β : Type} (f : α → Hs → R β) : (R.no : R α).bnd f = .no := rfl

abbrev mk (s : List Nat) : Str := ⟨s.toArray⟩
/-! ### what stands for what -/
mutual
def VR (K : PySem.W.Frag) (ι : List Addr) (H : Hp) : D → V → Prop
  | .non, v => v = .non
  | .bl b, v => v = .bl b
  | .int i, v => v = .int i
  | .str s, v => v = .str (mk s) ∧ s.length ≤ 16777216 ∧ ∀ c ∈ s, c < 1114112
  | .tup ds, v => ∃ a vs, v = .ref a ∧ SqT K H a vs ∧ VRs K ι H ds vs
  | .lst ds, v => ∃ a vs, v = .ref a ∧ H a = some (.lst vs) ∧ a ∉ ι ∧ VRs K ι H ds vs
  | .ref n, v => ∃ a, v = .ref a ∧ ι[n]? = some a
  | .scr ns, v => ∃ a, v = .ref a ∧ ((Rd H a (.lst (ns.map V.int)) ∧ a ∉ ι) ∨ SqL K (fun _ => none) a (ns.map V.int))
def VRs (K : PySem.W.Frag) (ι : List Addr) (H : Hp) : List D → List V → Prop
  | [], vs => vs = []
  | d :: ds, vs => ∃ v r, vs = v :: r ∧ VR K ι H d v ∧ VRs K ι H ds r
end

def isT : HO → Prop
  | .tup _ => True
  | .frz _ _ => True
  | _ => False

/-- from (ι, H) to (ι', H'): what the numbers stand for grows, what they do not stand for stays -/
structure Stp (ι : List Addr) (H : Hp) (ι' : List Addr) (H' : Hp) : Prop where
  pre : ∀ (n : Nat) (a : Addr), ι[n]? = some a → ι'[n]? = some a
  keep : ∀ a o, H a = some o → a ∉ ι → H' a = some o ∧ a ∉ ι'
  tup : ∀ a o, H a = some o → isT o → H' a = some o

theorem Stp.refl (ι : List Addr) (H : Hp) : Stp ι H ι H := ⟨fun _ _ h => h, fun _ _ h n => ⟨h, n⟩, fun _ _ h _ => h⟩
theorem Stp.trans {ι ι1 ι2 : List Addr} {H H1 H2 : Hp} (a : Stp ι H ι1 H1) (b : Stp ι1 H1 ι2 H2) : Stp ι H ι2 H2 :=
  ⟨fun n x h => b.pre n x (a.pre n x h), fun x o h n => let ⟨h1, n1⟩ := a.keep x o h n; b.keep x o h1 n1, fun x o h t => b.tup x o (a.tup x o h t) t⟩

theorem sqT_step {K : PySem.W.Frag} {ι ι' : List Addr} {H H' : Hp} (s : Stp ι H ι' H') {a : Addr} {vs : List V} (h : SqT K H a vs) : SqT K H' a vs := by
  rcases h with (h | ⟨o, h⟩) | h
  · exact .inl (.inl (s.tup _ _ h trivial))
  · exact .inl (.inr ⟨o, s.tup _ _ h trivial⟩)
  · exact .inr h
mutual
theorem VR.mono {K : PySem.W.Frag} {ι ι' : List Addr} {H H' : Hp} (s : Stp ι H ι' H') : ∀ (d : D) (v : V), VR K ι H d v → VR K ι' H' d v
  | .non, _, h => h
  | .bl _, _, h => h
  | .int _, _, h => h
  | .str _, _, h => h
  | .tup ds, v, h => by
    unfold VR at h ⊢
    obtain ⟨a, vs, e, q, r⟩ := h
    exact ⟨a, vs, e, sqT_step s q, VRs.mono s ds vs r⟩
  | .lst ds, v, h => by
    unfold VR at h ⊢
    obtain ⟨a, vs, e, q, n, r⟩ := h
    obtain ⟨q', n'⟩ := s.keep _ _ q n
    exact ⟨a, vs, e, q', n', VRs.mono s ds vs r⟩
  | .ref n, v, h => by
    unfold VR at h ⊢
    obtain ⟨a, e, q⟩ := h
    exact ⟨a, e, s.pre _ _ q⟩
  | .scr ns, v, h => by
    unfold VR at h ⊢
    obtain ⟨a, e, q⟩ := h
    rcases q with ⟨q | ⟨o, q⟩, n⟩ | q
    · obtain ⟨q', n'⟩ := s.keep _ _ q n
      exact ⟨a, e, .inl ⟨.inl q', n'⟩⟩
    · obtain ⟨q', n'⟩ := s.keep _ _ q n
      exact ⟨a, e, .inl ⟨.inr ⟨o, q'⟩, n'⟩⟩
    · exact ⟨a, e, .inr q⟩
theorem VRs.mono {K : PySem.W.Frag} {ι ι' : List Addr} {H H' : Hp} (s : Stp ι H ι' H') : ∀ (ds : List D) (vs : List V), VRs K ι H ds vs → VRs K ι' H' ds vs
  | [], _, h => h
  | d :: ds, vs, h => by
    unfold VRs at h ⊢
    obtain ⟨v, r, e, h1, h2⟩ := h
    exact ⟨v, r, e, VR.mono s d v h1, VRs.mono s ds r h2⟩
end
end PF
namespace PF
open PySem PySem.Spec PyProof.Rows L2

mutual
def D.pur : D → Bool
  | .non => true
  | .bl _ => true
  | .int _ => true
  | .str _ => true
  | .tup xs => purs xs
  | .lst _ => false
  | .ref _ => false
  | .scr _ => false
def purs : List D → Bool
  | [] => true
  | d :: ds => d.pur && purs ds
end
mutual
def D.nor : D → Bool
  | .non => true
  | .bl _ => true
  | .int _ => true
  | .str _ => true
  | .tup xs => nors xs
  | .lst xs => nors xs
  | .ref _ => false
  | .scr _ => false
def nors : List D → Bool
  | [] => true
  | d :: ds => d.nor && nors ds
end
@[simp] theorem pur_non : D.non.pur = true := rfl
@[simp] theorem pur_bl (b : Bool) : (D.bl b).pur = true := rfl
@[simp] theorem pur_int (i : Int) : (D.int i).pur = true := rfl
@[simp] theorem pur_str (s : List Nat) : (D.str s).pur = true := rfl
@[simp] theorem pur_tup (xs : List D) : (D.tup xs).pur = purs xs := by unfold D.pur; rfl
@[simp] theorem pur_lst (xs : List D) : (D.lst xs).pur = false := rfl
@[simp] theorem pur_ref (n : Nat) : (D.ref n).pur = false := rfl
@[simp] theorem pur_scr (n : List Int) : (D.scr n).pur = false := rfl
@[simp] theorem purs_nil : purs [] = true := rfl
@[simp] theorem purs_cons (d : D) (ds : List D) : purs (d :: ds) = (d.pur && purs ds) := by rw [purs]
theorem purs_all : ∀ ds : List D, purs ds = ds.all D.pur
  | [] => rfl
  | d :: ds => by rw [purs_cons, purs_all ds]; rfl
@[simp] theorem purs_append (a b : List D) : purs (a ++ b) = (purs a && purs b) := by simp [purs_all]
@[simp] theorem purs_map_int {α : Type} (f : α → Int) (l : List α) : purs (l.map fun x => D.int (f x)) = true := by simp [purs_all]
@[simp] theorem purs_map_int' (l : List Int) : purs (l.map D.int) = true := by simp [purs_all]
@[simp] theorem purs_map_str' (l : List (List Nat)) : purs (l.map D.str) = true := by simp [purs_all]
@[simp] theorem purs_map_bl' (l : List Bool) : purs (l.map D.bl) = true := by simp [purs_all]
theorem purs_map {α : Type} {f : α → D} (hf : ∀ x, (f x).pur = true) (l : List α) : purs (l.map f) = true := by simp [purs_all, hf]
@[simp] theorem nor_non : D.non.nor = true := rfl
@[simp] theorem nor_bl (b : Bool) : (D.bl b).nor = true := rfl
@[simp] theorem nor_int (i : Int) : (D.int i).nor = true := rfl
@[simp] theorem nor_str (s : List Nat) : (D.str s).nor = true := rfl
@[simp] theorem nor_tup (xs : List D) : (D.tup xs).nor = nors xs := by unfold D.nor; rfl
@[simp] theorem nor_lst (xs : List D) : (D.lst xs).nor = nors xs := by unfold D.nor; rfl
@[simp] theorem nor_ref (n : Nat) : (D.ref n).nor = false := rfl
@[simp] theorem nor_scr (n : List Int) : (D.scr n).nor = false := rfl
@[simp] theorem nors_nil : nors [] = true := rfl
@[simp] theorem nors_cons (d : D) (ds : List D) : nors (d :: ds) = (d.nor && nors ds) := by rw [nors]
theorem nors_all : ∀ ds : List D, nors ds = ds.all D.nor
  | [] => rfl
  | d :: ds => by rw [nors_cons, nors_all ds]; rfl
@[simp] theorem nors_append (a b : List D) : nors (a ++ b) = (nors a && nors b) := by simp [nors_all]
mutual
theorem nor_of_pur : ∀ d : D, d.pur = true → d.nor = true
  | .non, _ => rfl
  | .bl _, _ => rfl
  | .int _, _ => rfl
  | .str _, _ => rfl
  | .tup xs, h => by rw [nor_tup]; rw [pur_tup] at h; exact nors_of_purs xs h
  | .lst _, h => by cases h
  | .ref _, h => by cases h
  | .scr _, h => by cases h
theorem nors_of_purs : ∀ ds : List D, purs ds = true → nors ds = true
  | [], _ => rfl
  | d :: ds, h => by
    rw [purs_cons, Bool.and_eq_true] at h
    rw [nors_cons, Bool.and_eq_true]
    exact ⟨nor_of_pur d h.1, nors_of_purs ds h.2⟩
end

section
variable {K : PySem.W.Frag} {ι ι' S : List Addr} {H H' : Hp}
mutual
theorem VR.pur : ∀ (d : D) (v : V), d.pur = true → VR K ι H d v → VR K ι' H d v
  | .non, _, _, h => h
  | .bl _, _, _, h => h
  | .int _, _, _, h => h
  | .str _, _, _, h => h
  | .tup ds, v, p, h => by
    unfold VR at h ⊢
    obtain ⟨a, vs, e, q, r⟩ := h
    exact ⟨a, vs, e, q, VRs.pur ds vs (by simpa using p) r⟩
  | .lst _, _, p, _ => by cases p
  | .ref _, _, p, _ => by cases p
  | .scr _, _, p, _ => by cases p
theorem VRs.pur : ∀ (ds : List D) (vs : List V), purs ds = true → VRs K ι H ds vs → VRs K ι' H ds vs
  | [], _, _, h => h
  | d :: ds, vs, p, h => by
    unfold VRs at h ⊢
    rw [purs_cons, Bool.and_eq_true] at p
    obtain ⟨v, r, e, h1, h2⟩ := h
    exact ⟨v, r, e, VR.pur d v p.1 h1, VRs.pur ds r p.2 h2⟩
end
mutual
/-- without references: nothing of ι is used -/
theorem VR.sub (hs : ∀ a, a ∈ S → a ∈ ι) : ∀ (d : D) (v : V), d.nor = true → VR K ι H d v → VR K S H d v
  | .non, _, _, h => h
  | .bl _, _, _, h => h
  | .int _, _, _, h => h
  | .str _, _, _, h => h
  | .tup ds, v, p, h => by
    unfold VR at h ⊢
    obtain ⟨a, vs, e, q, r⟩ := h
    exact ⟨a, vs, e, q, VRs.sub hs ds vs (by simpa using p) r⟩
  | .lst ds, v, p, h => by
    unfold VR at h ⊢
    obtain ⟨a, vs, e, q, n, r⟩ := h
    exact ⟨a, vs, e, q, fun m => n (hs a m), VRs.sub hs ds vs (by simpa using p) r⟩
  | .ref _, _, p, _ => by cases p
  | .scr _, _, p, _ => by cases p
theorem VRs.sub (hs : ∀ a, a ∈ S → a ∈ ι) : ∀ (ds : List D) (vs : List V), nors ds = true → VRs K ι H ds vs → VRs K S H ds vs
  | [], _, _, h => h
  | d :: ds, vs, p, h => by
    unfold VRs at h ⊢
    rw [nors_cons, Bool.and_eq_true] at p
    obtain ⟨v, r, e, h1, h2⟩ := h
    exact ⟨v, r, e, VR.sub hs d v p.1 h1, VRs.sub hs ds r p.2 h2⟩
end

/-! ### lists of values -/
theorem VRs.nil_iff {vs : List V} : VRs K ι H [] vs ↔ vs = [] := Iff.rfl
theorem VRs.cons_iff {d : D} {ds : List D} {vs : List V} : VRs K ι H (d :: ds) vs ↔ ∃ v r, vs = v :: r ∧ VR K ι H d v ∧ VRs K ι H ds r := by
  constructor
  · intro h; unfold VRs at h; exact h
  · intro h; unfold VRs; exact h
theorem VRs.cons {d : D} {ds : List D} {v : V} {vs : List V} (h : VR K ι H d v) (t : VRs K ι H ds vs) : VRs K ι H (d :: ds) (v :: vs) := VRs.cons_iff.mpr ⟨v, vs, rfl, h, t⟩
theorem VRs.one {d : D} {v : V} (h : VR K ι H d v) : VRs K ι H [d] [v] := .cons h rfl
theorem VRs.length : ∀ {ds : List D} {vs : List V}, VRs K ι H ds vs → ds.length = vs.length
  | [], vs, h => by rw [VRs.nil_iff.mp h]; rfl
  | d :: ds, vs, h => by
    obtain ⟨v, r, rfl, _, t⟩ := VRs.cons_iff.mp h
    simp [VRs.length t]
theorem VRs.get : ∀ {ds : List D} {vs : List V} {i : Nat} {d : D}, VRs K ι H ds vs → ds[i]? = some d → ∃ v, vs[i]? = some v ∧ VR K ι H d v
  | [], _, _, _, _, e => by simp at e
  | d :: ds, vs, 0, x, h, e => by
    obtain ⟨v, r, rfl, h1, t⟩ := VRs.cons_iff.mp h
    simp at e; subst e
    exact ⟨v, rfl, h1⟩
  | d :: ds, vs, i + 1, x, h, e => by
    obtain ⟨v, r, rfl, h1, t⟩ := VRs.cons_iff.mp h
    obtain ⟨w, h2, h3⟩ := VRs.get t (i := i) (by simpa using e)
    exact ⟨w, by simpa using h2, h3⟩
theorem VRs.back : ∀ {ds : List D} {vs : List V} {i : Nat} {v : V}, VRs K ι H ds vs → vs[i]? = some v → ∃ d, ds[i]? = some d ∧ VR K ι H d v
  | [], vs, i, v, h, e => by rw [VRs.nil_iff.mp h] at e; simp at e
  | d :: ds, vs, 0, x, h, e => by
    obtain ⟨v, r, rfl, h1, t⟩ := VRs.cons_iff.mp h
    simp at e; subst e
    exact ⟨d, rfl, h1⟩
  | d :: ds, vs, i + 1, x, h, e => by
    obtain ⟨v, r, rfl, h1, t⟩ := VRs.cons_iff.mp h
    obtain ⟨w, h2, h3⟩ := VRs.back t (i := i) (by simpa using e)
    exact ⟨w, by simpa using h2, h3⟩
theorem VRs.app : ∀ {ds es : List D} {vs ws : List V}, VRs K ι H ds vs → VRs K ι H es ws → VRs K ι H (ds ++ es) (vs ++ ws)
  | [], _, vs, _, h, t => by rw [VRs.nil_iff.mp h]; exact t
  | d :: ds, es, vs, ws, h, t => by
    obtain ⟨v, r, rfl, h1, q⟩ := VRs.cons_iff.mp h
    exact .cons h1 (VRs.app q t)
theorem VRs.take : ∀ {ds : List D} {vs : List V} (n : Nat), VRs K ι H ds vs → VRs K ι H (ds.take n) (vs.take n)
  | _, _, 0, _ => rfl
  | [], vs, n + 1, h => by rw [VRs.nil_iff.mp h]; rfl
  | d :: ds, vs, n + 1, h => by
    obtain ⟨v, r, rfl, h1, q⟩ := VRs.cons_iff.mp h
    exact .cons h1 (VRs.take n q)
theorem VRs.drop : ∀ {ds : List D} {vs : List V} (n : Nat), VRs K ι H ds vs → VRs K ι H (ds.drop n) (vs.drop n)
  | _, _, 0, h => h
  | [], vs, n + 1, h => by rw [VRs.nil_iff.mp h]; rfl
  | d :: ds, vs, n + 1, h => by
    obtain ⟨v, r, rfl, h1, q⟩ := VRs.cons_iff.mp h
    exact VRs.drop n q
theorem VRs.set {d : D} {v : V} (hd : VR K ι H d v) : ∀ {ds : List D} {vs : List V} (n : Nat), VRs K ι H ds vs → VRs K ι H (ds.set n d) (vs.set n v)
  | [], vs, n, h => by rw [VRs.nil_iff.mp h]; rfl
  | x :: ds, vs, 0, h => by
    obtain ⟨v, r, rfl, h1, q⟩ := VRs.cons_iff.mp h
    exact .cons hd q
  | x :: ds, vs, n + 1, h => by
    obtain ⟨v, r, rfl, h1, q⟩ := VRs.cons_iff.mp h
    exact .cons h1 (VRs.set hd n q)
theorem VRs.erase : ∀ {ds : List D} {vs : List V} (n : Nat), VRs K ι H ds vs → VRs K ι H (ds.eraseIdx n) (vs.eraseIdx n)
  | [], vs, n, h => by rw [VRs.nil_iff.mp h]; rfl
  | x :: ds, vs, 0, h => by
    obtain ⟨v, r, rfl, h1, q⟩ := VRs.cons_iff.mp h
    exact q
  | x :: ds, vs, n + 1, h => by
    obtain ⟨v, r, rfl, h1, q⟩ := VRs.cons_iff.mp h
    exact .cons h1 (VRs.erase n q)
theorem VRs.ints : ∀ {ns : List Int} {vs : List V}, VRs K ι H (ns.map D.int) vs → vs = ns.map V.int
  | [], vs, h => VRs.nil_iff.mp h
  | n :: ns, vs, h => by
    obtain ⟨v, r, rfl, h1, q⟩ := VRs.cons_iff.mp h
    have e : v = .int n := h1
    rw [e, VRs.ints q]; rfl
theorem VRs.of_ints : ∀ (ns : List Int), VRs K ι H (ns.map D.int) (ns.map V.int)
  | [] => rfl
  | n :: ns => .cons rfl (VRs.of_ints ns)

/-! ### objects, the local heap, the slots -/
def keyOf : D → Option Key
  | .int i => some (.inl i)
  | .str s => some (.inr (mk s))
  | _ => none
/-- the entries of a dict -/
def KVR (K : PySem.W.Frag) (ι : List Addr) (H : Hp) (kvs : List (D × D)) (us : List (Key × V)) : Prop :=
  kvs.map (fun p => keyOf p.1) = us.map (fun p => some p.1) ∧ VRs K ι H (kvs.map Prod.fst) (us.map fun p => kV p.1) ∧ VRs K ι H (kvs.map Prod.snd) (us.map Prod.snd)
def ObR (K : PySem.W.Frag) (ι : List Addr) (H : Hp) : Ob → Addr → Prop
  | .lst ds, a => ∃ vs, H a = some (.lst vs) ∧ VRs K ι H ds vs
  | .dct kvs, a => ∃ us, H a = some (.dK us) ∧ KVR K ι H kvs us
theorem ObR.there {o : Ob} {a : Addr} (h : ObR K ι H o a) : ∃ u, H a = some u ∧ ¬ isT u := by
  cases o with
  | lst ds => obtain ⟨vs, e, _⟩ := h; exact ⟨_, e, fun z => z⟩
  | dct b => obtain ⟨c, e, _⟩ := h; exact ⟨_, e, fun z => z⟩
theorem KVR.mono {kvs : List (D × D)} {us : List (Key × V)} (s : Stp ι H ι' H') (h : KVR K ι H kvs us) : KVR K ι' H' kvs us := ⟨h.1, VRs.mono s _ _ h.2.1, VRs.mono s _ _ h.2.2⟩
theorem ObR.mono {o : Ob} {a : Addr} (s : Stp ι H ι' H') (e : H' a = H a) (h : ObR K ι H o a) : ObR K ι' H' o a := by
  cases o with
  | lst ds =>
    obtain ⟨vs, q, r⟩ := h
    exact ⟨vs, e.trans q, VRs.mono s ds vs r⟩
  | dct b =>
    obtain ⟨us, q, r⟩ := h
    exact ⟨us, e.trans q, r.mono s⟩

structure Rel (K : PySem.W.Frag) (H0 : Hp) (sp : List Addr) (ι : List Addr) (h : Hs) (H : Hp) : Prop where
  len : ι.length = h.length
  nd : ι.Nodup
  ob : ∀ (n : Nat) (o : Ob), h[n]? = some o → ∃ a, ι[n]? = some a ∧ ObR K ι H o a
  base : ∀ a o, H0 a = some o → a ∉ ι → H a = some o
  new : ∀ a ∈ ι, H0 a = none ∨ a ∈ sp
  spin : ∀ a ∈ sp, a ∈ ι

def EnvR (K : PySem.W.Frag) (ι : List Addr) (H : Hp) (env : En) (σ : L2.St) : Prop :=
  env.length = σ.length ∧ ∀ (i : Nat) (d : D), env[i]? = some (some d) → ∃ v, σ[i]? = some (some v) ∧ VR K ι H d v
variable {H0 : Hp} {sp : List Addr} {h : Hs} {env : En} {σ : L2.St}
theorem EnvR.mono (s : Stp ι H ι' H') (e : EnvR K ι H env σ) : EnvR K ι' H' env σ :=
  ⟨e.1, fun i d q => let ⟨v, h1, h2⟩ := e.2 i d q; ⟨v, h1, VR.mono s d v h2⟩⟩
theorem EnvR.set {i : Nat} {d : D} {v : V} (e : EnvR K ι H env σ) (h : VR K ι H d v) : EnvR K ι H (env.set i (some d)) (σ.set i (some v)) := by
  refine ⟨by simp [e.1], fun j x q => ?_⟩
  by_cases hj : j = i
  · subst hj
    have hl : j < env.length := by
      have := (List.getElem?_eq_some_iff.mp q).1
      simpa using this
    rw [List.getElem?_set_self hl] at q
    cases q
    exact ⟨v, List.getElem?_set_self (by rw [← e.1]; exact hl), h⟩
  · rw [List.getElem?_set_ne (Ne.symm hj)] at q
    obtain ⟨w, h1, h2⟩ := e.2 j x q
    exact ⟨w, by rw [List.getElem?_set_ne (Ne.symm hj)]; exact h1, h2⟩
/-- some slots are forgotten -/
def wipeE (env : En) : List Nat → En
  | [] => env
  | i :: r => wipeE (env.set i none) r
theorem EnvR.forget {i : Nat} (e : EnvR K ι H env σ) : EnvR K ι H (env.set i none) σ := by
  refine ⟨by simp [e.1], fun j x q => ?_⟩
  by_cases hj : j = i
  · subst hj
    have hl : j < env.length := by
      have := (List.getElem?_eq_some_iff.mp q).1
      simpa using this
    rw [List.getElem?_set_self hl] at q
    cases q
  · rw [List.getElem?_set_ne (Ne.symm hj)] at q
    exact e.2 j x q
theorem EnvR.wipe : ∀ {ws : List Nat} {env : En}, EnvR K ι H env σ → EnvR K ι H (wipeE env ws) σ
  | [], _, e => e
  | i :: r, env, e => EnvR.wipe (ws := r) e.forget
/-- fewer slots known than HandS knows -/
theorem EnvR.wiped {σ' : L2.St} (e : EnvR K ι H env σ) (hl : σ'.length = σ.length) (hw : ∀ (i : Nat) (d : D), env[i]? = some (some d) → σ'[i]? = σ[i]?) : EnvR K ι H env σ' :=
  ⟨e.1.trans hl.symm, fun i d q => let ⟨v, h1, h2⟩ := e.2 i d q; ⟨v, (hw i d q).trans h1, h2⟩⟩

theorem Rel.inH (r : Rel K H0 sp ι h H) {n : Nat} {a : Addr} (e : ι[n]? = some a) : ∃ u, H a = some u ∧ ¬ isT u := by
  have hn : n < h.length := by rw [← r.len]; exact (List.getElem?_eq_some_iff.mp e).1
  obtain ⟨b, h1, h2⟩ := r.ob n h[n] (by simp [hn])
  rw [e] at h1; cases h1
  exact h2.there
theorem Rel.memH (r : Rel K H0 sp ι h H) {a : Addr} (e : a ∈ ι) : ∃ u, H a = some u ∧ ¬ isT u := by
  obtain ⟨n, hn⟩ := List.getElem?_of_mem e
  exact r.inH hn
theorem Rel.fresh (r : Rel K H0 sp ι h H) {p : Addr} (e : H p = none) : p ∉ ι := fun m => by
  obtain ⟨u, q, _⟩ := r.memH m
  rw [e] at q; cases q
/-- all that was tracked stays -/
theorem Rel.grow (r : Rel K H0 sp ι h H) (g : ∀ a o, H a = some o → H' a = some o) : Rel K H0 sp ι h H' ∧ Stp ι H ι H' := by
  have s : Stp ι H ι H' := ⟨fun _ _ e => e, fun a o e n => ⟨g a o e, n⟩, fun a o e _ => g a o e⟩
  refine ⟨⟨r.len, r.nd, fun n o e => ?_, fun a o e n => g a o (r.base a o e n), r.new, r.spin⟩, s⟩
  obtain ⟨a, h1, h2⟩ := r.ob n o e
  obtain ⟨u, q, _⟩ := h2.there
  exact ⟨a, h1, h2.mono s ((g a u q).trans q.symm)⟩
theorem Rel.tmp (r : Rel K H0 sp ι h H) {p : Addr} {o : HO} (e : H p = none) : Rel K H0 sp ι h (upd H p o) ∧ Stp ι H ι (upd H p o) :=
  r.grow fun a u q => by rw [upd_ne (ne_of_none q e)]; exact q
/-- a new numbered object -/
theorem Rel.adopt (r : Rel K H0 sp ι h H) (g : ∀ a o, H a = some o → H' a = some o) {p : Addr} {o : Ob} (e : H p = none) (new : Stp ι H (ι ++ [p]) H' → ObR K (ι ++ [p]) H' o p) : Rel K H0 sp (ι ++ [p]) (h ++ [o]) H' ∧ Stp ι H (ι ++ [p]) H' := by
  have np0 : p ∉ ι := r.fresh e
  have s : Stp ι H (ι ++ [p]) H' := ⟨fun n a q => by rw [List.getElem?_append_left (List.getElem?_eq_some_iff.mp q).1]; exact q, fun a u q n => ⟨g a u q, fun m => by
    rcases List.mem_append.mp m with m | m
    · exact n m
    · have : a = p := by simpa using m
      rw [this, e] at q; cases q⟩, fun a u q _ => g a u q⟩
  refine ⟨⟨by simp [r.len], ?_, fun n x q => ?_, fun a u q n => g a u (r.base a u q fun m => n (List.mem_append_left _ m)), fun a m => ?_, fun a m => List.mem_append_left _ (r.spin a m)⟩, s⟩
  · rw [List.nodup_append]
    exact ⟨r.nd, by simp, fun a ha b hb => by
      have : b = p := by simpa using hb
      rw [this]; intro z; exact np0 (z ▸ ha)⟩
  · by_cases hn : n < h.length
    · rw [List.getElem?_append_left hn] at q
      obtain ⟨a, h1, h2⟩ := r.ob n x q
      obtain ⟨u, q', _⟩ := h2.there
      exact ⟨a, s.pre n a h1, h2.mono s ((g a u q').trans q'.symm)⟩
    · have hn' : n = h.length := by
        have := (List.getElem?_eq_some_iff.mp q).1
        simp at this; omega
      subst hn'
      simp at q; subst q
      exact ⟨p, by rw [← r.len]; simp, new s⟩
  · rcases List.mem_append.mp m with m | m
    · exact r.new a m
    · have : a = p := by simpa using m
      subst this
      left
      cases q : H0 a with
      | none => rfl
      | some u => rw [r.base a u q np0] at e; cases e
theorem Rel.add (r : Rel K H0 sp ι h H) {p : Addr} {ho : HO} {o : Ob} (e : H p = none) (new : Stp ι H (ι ++ [p]) (upd H p ho) → ObR K (ι ++ [p]) (upd H p ho) o p) : Rel K H0 sp (ι ++ [p]) (h ++ [o]) (upd H p ho) ∧ Stp ι H (ι ++ [p]) (upd H p ho) :=
  r.adopt (fun a u q => by rw [upd_ne (ne_of_none q e)]; exact q) e new
/-- an object of the local heap is changed -/
theorem Rel.put (r : Rel K H0 sp ι h H) {n : Nat} {a : Addr} {ho : HO} {o : Ob} (hn : ι[n]? = some a) (new : Stp ι H ι (upd H a ho) → ObR K ι (upd H a ho) o a) : Rel K H0 sp ι (h.set n o) (upd H a ho) ∧ Stp ι H ι (upd H a ho) := by
  obtain ⟨u, hu, nt⟩ := r.inH hn
  have ma : a ∈ ι := List.mem_of_getElem? hn
  have s : Stp ι H ι (upd H a ho) := ⟨fun _ _ e => e, fun b x q m => ⟨by rw [upd_ne (fun z => m (by rw [z]; exact ma))]; exact q, m⟩, fun b x q t => by
    rw [upd_ne (fun z => by rw [z, hu] at q; cases q; exact nt t)]; exact q⟩
  refine ⟨⟨by simp [r.len], r.nd, fun m x q => ?_, fun b x q m => ?_, r.new, r.spin⟩, s⟩
  · by_cases hm : m = n
    · subst hm
      have hl : m < h.length := by rw [← r.len]; exact (List.getElem?_eq_some_iff.mp hn).1
      rw [List.getElem?_set_self hl] at q
      cases q
      exact ⟨a, hn, new s⟩
    · rw [List.getElem?_set_ne (Ne.symm hm)] at q
      obtain ⟨b, h1, h2⟩ := r.ob m x q
      have hb : b ≠ a := fun z => by
        subst z
        obtain ⟨l1, e1⟩ := List.getElem?_eq_some_iff.mp h1
        obtain ⟨l2, e2⟩ := List.getElem?_eq_some_iff.mp hn
        exact hm ((List.getElem_inj r.nd).mp (e1.trans e2.symm))
      exact ⟨b, h1, h2.mono s (upd_ne hb)⟩
  · rw [upd_ne (fun z => m (by rw [z]; exact ma))]
    exact r.base b x q m
end
end PF
namespace PF
open PySem PySem.Spec PyProof.Rows L2

abbrev Wx := Value → Option Addr → L2.St → Hp → Prop
structure G where
  K : PySem.W.Frag
  er : Er → Hp → Value → Option Addr → Prop

/-- what a result of the functional side is worth -/
def WP {α : Type} (g : G) (H0 : Hp) (sp : List Addr) (W : Wx) (ι : List Addr) (H : Hp) (r : R α) (P : α → Hs → List Addr → Hp → Prop) : Prop :=
  match r with
  | .ok a h => ∀ ι' H', Rel g.K H0 sp ι' h H' → Stp ι H ι' H' → P a h ι' H'
  | .er e env h => ∀ ι' H' cls d σ', Rel g.K H0 sp ι' h H' → Stp ι H ι' H' → g.er e H' cls d → EnvR g.K ι' H' env σ' → W cls d σ' H'
  | .no => False
section
variable {g : G} {H0 : Hp} {sp : List Addr} {W : Wx} {ι ι' : List Addr} {H H' : Hp} {h h' : Hs} {α β : Type}
theorem WP.mono {r : R α} {P P' : α → Hs → List Addr → Hp → Prop} (x : WP g H0 sp W ι H r P) (k : ∀ a h' ι' H', Rel g.K H0 sp ι' h' H' → Stp ι H ι' H' → P a h' ι' H' → P' a h' ι' H') : WP g H0 sp W ι H r P' := by
  cases r with
  | ok a h1 => exact fun ι' H' r s => k a h1 ι' H' r s (x ι' H' r s)
  | er e v h1 => exact x
  | no => exact x
theorem WP.bnd {m : R α} {f : α → Hs → R β} {P : β → Hs → List Addr → Hp → Prop} {P1 : α → Hs → List Addr → Hp → Prop} (x : WP g H0 sp W ι H (m.bnd f) P)
    (k : ∀ a h' ι' H', Rel g.K H0 sp ι' h' H' → Stp ι H ι' H' → WP g H0 sp W ι' H' (f a h') P → P1 a h' ι' H') : WP g H0 sp W ι H m P1 := by
  cases m with
  | ok a h1 =>
    intro ι' H' r s
    refine k a h1 ι' H' r s ?_
    have x : WP g H0 sp W ι H (f a h1) P := x
    revert x
    cases f a h1 with
    | ok b h2 => exact fun x ι2 H2 r2 s2 => x ι2 H2 r2 (s.trans s2)
    | er e v h2 => exact fun x ι2 H2 cls d σ' r2 s2 => x ι2 H2 cls d σ' r2 (s.trans s2)
    | no => exact fun x => x
  | er e v h1 => exact x
  | no => exact x
theorem WP.here {a : α} {P : α → Hs → List Addr → Hp → Prop} (x : WP g H0 sp W ι H (.ok a h) P) (r : Rel g.K H0 sp ι h H) : P a h ι H := x ι H r (Stp.refl _ _)
theorem WP.at {a : α} {P : α → Hs → List Addr → Hp → Prop} (x : WP g H0 sp W ι H (.ok a h') P) (r : Rel g.K H0 sp ι' h' H' ∧ Stp ι H ι' H') : P a h' ι' H' := x ι' H' r.1 r.2
theorem WP.step {r : R α} {P : α → Hs → List Addr → Hp → Prop} (x : WP g H0 sp W ι H r P) (s : Stp ι H ι' H') : WP g H0 sp W ι' H' r P := by
  cases r with
  | ok a h1 => exact fun ι2 H2 r2 s2 => x ι2 H2 r2 (s.trans s2)
  | er e v h1 => exact fun ι2 H2 cls d σ' r2 s2 => x ι2 H2 cls d σ' r2 (s.trans s2)
  | no => exact x
end

abbrev FE := En → Hs → R D
abbrev FT := En → Hs → R Bool
abbrev FA := En → Hs → R (List D)
abbrev FO := En → Hs → R (Option Int)

def SimE (g : G) (W : Wx) (te : TE) (fe : FE) : Prop := ∀ (H0 : Hp) (sp ι : List Addr) (h : Hs) (H : Hp) (env : En) (σ : L2.St) (Q : VK), Rel g.K H0 sp ι h H → EnvR g.K ι H env σ →
  WP g H0 sp W ι H (fe env h) (fun d _ ι' H' => ∀ v, VR g.K ι' H' d v → Q v H') → te σ H Q
def SimT (g : G) (W : Wx) (tt : TT) (ft : FT) : Prop := ∀ (H0 : Hp) (sp ι : List Addr) (h : Hs) (H : Hp) (env : En) (σ : L2.St) (Q : Bool → Hp → Prop), Rel g.K H0 sp ι h H → EnvR g.K ι H env σ →
  WP g H0 sp W ι H (ft env h) (fun b _ _ H' => Q b H') → tt σ H Q
def SimA (g : G) (W : Wx) (ta : TA) (fa : FA) : Prop := ∀ (H0 : Hp) (sp ι : List Addr) (h : Hs) (H : Hp) (env : En) (σ : L2.St) (Q : List V → Hp → Prop), Rel g.K H0 sp ι h H → EnvR g.K ι H env σ →
  WP g H0 sp W ι H (fa env h) (fun ds _ ι' H' => ∀ vs, VRs g.K ι' H' ds vs → Q vs H') → ta σ H Q
def SimO (g : G) (W : Wx) (to : TO) (fo : FO) : Prop := ∀ (H0 : Hp) (sp ι : List Addr) (h : Hs) (H : Hp) (env : En) (σ : L2.St) (Q : Option Int → Hp → Prop), Rel g.K H0 sp ι h H → EnvR g.K ι H env σ →
  WP g H0 sp W ι H (fo env h) (fun o _ _ H' => Q o H') → to σ H Q
/-- by values -/
def SimR2 (g : G) (r : R2) (f : D → D → Hs → R D) : Prop := ∀ (H0 : Hp) (sp ι : List Addr) (h : Hs) (H : Hp) (x y : D) (vx vy : V) (W : Wx) (Q : VK), Rel g.K H0 sp ι h H → VR g.K ι H x vx → VR g.K ι H y vy →
  WP g H0 sp W ι H (f x y h) (fun d _ ι' H' => ∀ v, VR g.K ι' H' d v → Q v H') → r vx vy H Q
def SimU (g : G) (r : V → Hp → VK → Prop) (f : D → Hs → R D) : Prop := ∀ (H0 : Hp) (sp ι : List Addr) (h : Hs) (H : Hp) (x : D) (vx : V) (W : Wx) (Q : VK), Rel g.K H0 sp ι h H → VR g.K ι H x vx →
  WP g H0 sp W ι H (f x h) (fun d _ ι' H' => ∀ v, VR g.K ι' H' d v → Q v H') → r vx H Q
def SimC (g : G) (r : List V → Hp → VK → Prop) (f : List D → Hs → R D) : Prop := ∀ (H0 : Hp) (sp ι : List Addr) (h : Hs) (H : Hp) (xs : List D) (vs : List V) (W : Wx) (Q : VK), Rel g.K H0 sp ι h H → VRs g.K ι H xs vs →
  WP g H0 sp W ι H (f xs h) (fun d _ ι' H' => ∀ v, VR g.K ι' H' d v → Q v H') → r vs H Q

/-! ### names, constants -/
def fVar (i : Nat) : FE := fun env h => match env[i]? with
  | some (some d) => .ok d h
  | _ => .no
def fC (d : D) : FE := fun _ h => .ok d h
section
variable {g : G} {W : Wx} {ta tb te : TE} {fa fb fe : FE} {t u : TT} {ft fu : FT}
theorem sim_var (i : Nat) : SimE g W (tVar i) (fVar i) := by
  intro H0 sp ι h H env σ Q r e w
  unfold fVar at w
  cases hi : env[i]? with
  | none => rw [hi] at w; exact w.elim
  | some o =>
    cases o with
    | none => rw [hi] at w; exact w.elim
    | some d =>
      rw [hi] at w
      obtain ⟨v, h1, h2⟩ := e.2 i d hi
      exact ⟨v, h1, w.here r v h2⟩
theorem sim_int (i : Int) : SimE g W (tC (.int i)) (fC (.int i)) := fun _ _ _ _ _ _ _ _ r _ w => w.here r _ rfl
theorem sim_bl (b : Bool) : SimE g W (tC (.bl b)) (fC (.bl b)) := fun _ _ _ _ _ _ _ _ r _ w => w.here r _ rfl
theorem sim_non : SimE g W (tC .non) (fC .non) := fun _ _ _ _ _ _ _ _ r _ w => w.here r _ rfl
theorem sim_str {x : Str} (s : List Nat) (e : x = mk s := by decide +kernel) (hl : s.length ≤ 16777216 := by decide) (hc : ∀ c ∈ s, c < 1114112 := by decide) : SimE g W (tC (.str x)) (fC (.str s)) := fun _ _ _ _ _ _ _ _ r _ w => w.here r _ (by
  unfold VR
  exact ⟨by rw [e], hl, hc⟩)

/-! ### operators by values -/
def fOp2 (f : D → D → Hs → R D) (fa fb : FE) : FE := fun env h => (fa env h).bnd fun x h1 => (fb env h1).bnd fun y h2 => f x y h2
def fUn (f : D → Hs → R D) (fa : FE) : FE := fun env h => (fa env h).bnd fun x h1 => f x h1
theorem sim_op {r : R2} {f : D → D → Hs → R D} (hr : SimR2 g r f) (ha : SimE g W ta fa) (hb : SimE g W tb fb) : SimE g W (tOp r ta tb) (fOp2 f fa fb) := by
  intro H0 sp ι h H env σ Q R E w
  refine ha H0 sp ι h H env σ _ R E (WP.bnd w fun x h1 ι1 H1 R1 S1 w1 v1 q1 => ?_)
  refine hb H0 sp ι1 h1 H1 env σ _ R1 (E.mono S1) (WP.bnd w1 fun y h2 ι2 H2 R2 S2 w2 v2 q2 => ?_)
  exact hr H0 sp ι2 h2 H2 x y v1 v2 W Q R2 (VR.mono S2 _ _ q1) q2 w2
theorem sim_un {r : V → Hp → VK → Prop} {f : D → Hs → R D} (hr : SimU g r f) (ha : SimE g W ta fa) : SimE g W (tUn r ta) (fUn f fa) := by
  intro H0 sp ι h H env σ Q R E w
  refine ha H0 sp ι h H env σ _ R E (WP.bnd w fun x h1 ι1 H1 R1 S1 w1 v1 q1 => ?_)
  exact hr H0 sp ι1 h1 H1 x v1 W Q R1 q1 w1

/-! ### argument lists, displays -/
def fNil : FA := fun _ h => .ok [] h
def fCons (fa : FE) (fr : FA) : FA := fun env h => (fa env h).bnd fun x h1 => (fr env h1).bnd fun xs h2 => .ok (x :: xs) h2
theorem sim_nil : SimA g W tNil fNil := fun _ _ _ _ _ _ _ _ r _ w => w.here r _ rfl
theorem sim_cons {tr : TA} {fr : FA} (ha : SimE g W ta fa) (hr : SimA g W tr fr) : SimA g W (tCons ta tr) (fCons fa fr) := by
  intro H0 sp ι h H env σ Q R E w
  refine ha H0 sp ι h H env σ _ R E (WP.bnd w fun x h1 ι1 H1 R1 S1 w1 v1 q1 => ?_)
  refine hr H0 sp ι1 h1 H1 env σ _ R1 (E.mono S1) (WP.bnd w1 fun y h2 ι2 H2 R2 S2 w2 v2 q2 => ?_)
  exact w2.here R2 _ (.cons (VR.mono S2 _ _ q1) q2)
def fTup (fa : FA) : FE := fun env h => (fa env h).bnd fun xs h1 => if xs.length ≤ 16777216 then .ok (.tup xs) h1 else .no
def fLst (fa : FA) : FE := fun env h => (fa env h).bnd fun xs h1 => if xs.length ≤ 16777216 then .ok (.ref h1.length) (h1 ++ [.lst xs]) else .no
/-- a new tuple, a new list -/
theorem newT {K : PySem.W.Frag} {H0 : Hp} {sp ι : List Addr} {h : Hs} {H : Hp} {ds : List D} {vs : List V} {p : Addr} (r : Rel K H0 sp ι h H) (q : VRs K ι H ds vs) (e : H p = none) :
    (Rel K H0 sp ι h (upd H p (.tup vs)) ∧ Stp ι H ι (upd H p (.tup vs))) ∧ VR K ι (upd H p (.tup vs)) (.tup ds) (.ref p) := by
  have x := r.tmp (o := .tup vs) e
  refine ⟨x, ?_⟩
  unfold VR
  exact ⟨p, vs, rfl, SqT.of upd_same, VRs.mono x.2 _ _ q⟩
theorem newL {K : PySem.W.Frag} {H0 : Hp} {sp ι : List Addr} {h : Hs} {H : Hp} {ds : List D} {vs : List V} {p : Addr} (r : Rel K H0 sp ι h H) (q : VRs K ι H ds vs) (e : H p = none) :
    (Rel K H0 sp (ι ++ [p]) (h ++ [.lst ds]) (upd H p (.lst vs)) ∧ Stp ι H (ι ++ [p]) (upd H p (.lst vs))) ∧ VR K (ι ++ [p]) (upd H p (.lst vs)) (.ref h.length) (.ref p) := by
  have x := r.add (ho := .lst vs) (o := .lst ds) e fun s => ⟨vs, upd_same, VRs.mono s _ _ q⟩
  refine ⟨x, ?_⟩
  unfold VR
  exact ⟨p, rfl, by rw [← r.len]; simp⟩
theorem ifN {α : Type} {g : G} {H0 : Hp} {sp ι : List Addr} {W : Wx} {H : Hp} {c : Prop} [Decidable c] {r : R α} {P : α → Hs → List Addr → Hp → Prop} (w : WP g H0 sp W ι H (if c then r else .no) P) : c ∧ WP g H0 sp W ι H r P := by
  by_cases hc : c
  · rw [if_pos hc] at w; exact ⟨hc, w⟩
  · rw [if_neg hc] at w; exact w.elim
theorem szl {n : Nat} (h : n ≤ 16777216) : n ≤ sizeLine := by rw [sizeLine_eq]; exact h
theorem sim_tup {ta : TA} {fa : FA} (ha : SimA g W ta fa) : SimE g W (tTup ta) (fTup fa) := by
  intro H0 sp ι h H env σ Q R E w
  refine ha H0 sp ι h H env σ _ R E (WP.bnd w fun x h1 ι1 H1 R1 S1 w1 v1 q1 => ?_)
  obtain ⟨hl, w1⟩ := ifN w1
  refine ⟨by rw [← q1.length]; exact szl hl, fun p hp => ?_⟩
  obtain ⟨x1, x2⟩ := newT R1 q1 hp
  exact w1.at x1 _ x2
theorem sim_lst {ta : TA} {fa : FA} (ha : SimA g W ta fa) : SimE g W (tLst ta) (fLst fa) := by
  intro H0 sp ι h H env σ Q R E w
  refine ha H0 sp ι h H env σ _ R E (WP.bnd w fun x h1 ι1 H1 R1 S1 w1 v1 q1 => ?_)
  obtain ⟨hl, w1⟩ := ifN w1
  refine ⟨by rw [← q1.length]; exact szl hl, fun p hp => ?_⟩
  obtain ⟨x1, x2⟩ := newL R1 q1 hp
  exact w1.at x1 _ x2

/-! ### tests -/
def fTest (fe : FE) : FT := fun env h => (fe env h).bnd fun x h1 => match x with
  | .bl b => .ok b h1
  | _ => .no
theorem sim_test (ha : SimE g W te fe) : SimT g W (tTest te) (fTest fe) := by
  intro H0 sp ι h H env σ Q R E w
  refine ha H0 sp ι h H env σ _ R E (WP.bnd w fun x h1 ι1 H1 R1 S1 w1 v1 q1 => ?_)
  cases x with
  | bl b => exact ⟨b, q1, w1.here R1⟩
  | _ => exact w1.elim
theorem sim_testB (ha : SimE g W te fe) : SimT g W (tB te) (fTest fe) := sim_test ha
def fAnd (ft fu : FT) : FT := fun env h => (ft env h).bnd fun b h1 => if b = true then fu env h1 else .ok false h1
def fOr (ft fu : FT) : FT := fun env h => (ft env h).bnd fun b h1 => if b = true then .ok true h1 else fu env h1
def fNot (ft : FT) : FT := fun env h => (ft env h).bnd fun b h1 => .ok (!b) h1
theorem sim_and (ha : SimT g W t ft) (hb : SimT g W u fu) : SimT g W (tAnd t u) (fAnd ft fu) := by
  intro H0 sp ι h H env σ Q R E w
  refine ha H0 sp ι h H env σ _ R E (WP.bnd w fun x h1 ι1 H1 R1 S1 w1 => ?_)
  cases x with
  | true => rw [if_pos rfl] at w1 ⊢; exact hb H0 sp ι1 h1 H1 env σ Q R1 (E.mono S1) w1
  | false => rw [if_neg Bool.false_ne_true] at w1 ⊢; exact w1.here R1
theorem sim_or (ha : SimT g W t ft) (hb : SimT g W u fu) : SimT g W (tOr t u) (fOr ft fu) := by
  intro H0 sp ι h H env σ Q R E w
  refine ha H0 sp ι h H env σ _ R E (WP.bnd w fun x h1 ι1 H1 R1 S1 w1 => ?_)
  cases x with
  | true => rw [if_pos rfl] at w1 ⊢; exact w1.here R1
  | false => rw [if_neg Bool.false_ne_true] at w1 ⊢; exact hb H0 sp ι1 h1 H1 env σ Q R1 (E.mono S1) w1
theorem sim_not (ha : SimT g W t ft) : SimT g W (tNot t) (fNot ft) := by
  intro H0 sp ι h H env σ Q R E w
  refine ha H0 sp ι h H env σ _ R E (WP.bnd w fun x h1 ι1 H1 R1 S1 w1 => ?_)
  exact w1.here R1
/-- as values: bools ahead of the last -/
def fAndV (fa fb : FE) : FE := fun env h => (fa env h).bnd fun x h1 => match x with
  | .bl true => fb env h1
  | .bl false => .ok (.bl false) h1
  | _ => .no
def fOrV (fa fb : FE) : FE := fun env h => (fa env h).bnd fun x h1 => match x with
  | .bl false => fb env h1
  | .bl true => .ok (.bl true) h1
  | _ => .no
def fNotV (fa : FE) : FE := fun env h => (fa env h).bnd fun x h1 => match x with
  | .bl b => .ok (.bl (!b)) h1
  | _ => .no
theorem sim_andV (ha : SimE g W ta fa) (hb : SimE g W tb fb) : SimE g W (tAndV ta tb) (fAndV fa fb) := by
  intro H0 sp ι h H env σ Q R E w
  refine ha H0 sp ι h H env σ _ R E (WP.bnd w fun x h1 ι1 H1 R1 S1 w1 v1 q1 => ?_)
  cases x with
  | bl b =>
    refine ⟨b, q1, ?_⟩
    cases b with
    | true => rw [if_pos rfl]; exact hb H0 sp ι1 h1 H1 env σ Q R1 (E.mono S1) w1
    | false => rw [if_neg Bool.false_ne_true]; exact w1.here R1 _ rfl
  | _ => exact w1.elim
theorem sim_orV (ha : SimE g W ta fa) (hb : SimE g W tb fb) : SimE g W (tOrV ta tb) (fOrV fa fb) := by
  intro H0 sp ι h H env σ Q R E w
  refine ha H0 sp ι h H env σ _ R E (WP.bnd w fun x h1 ι1 H1 R1 S1 w1 v1 q1 => ?_)
  cases x with
  | bl b =>
    refine ⟨b, q1, ?_⟩
    cases b with
    | true => rw [if_pos rfl]; exact w1.here R1 _ rfl
    | false => rw [if_neg Bool.false_ne_true]; exact hb H0 sp ι1 h1 H1 env σ Q R1 (E.mono S1) w1
  | _ => exact w1.elim
theorem sim_notV (ha : SimE g W ta fa) : SimE g W (tNotV ta) (fNotV fa) := by
  intro H0 sp ι h H env σ Q R E w
  refine ha H0 sp ι h H env σ _ R E (WP.bnd w fun x h1 ι1 H1 R1 S1 w1 v1 q1 => ?_)
  cases x with
  | bl b => exact ⟨b, q1, w1.here R1 _ rfl⟩
  | _ => exact w1.elim
def fIf (ft : FT) (fa fb : FE) : FE := fun env h => (ft env h).bnd fun b h1 => if b = true then fa env h1 else fb env h1
theorem sim_ifE (ht : SimT g W t ft) (ha : SimE g W ta fa) (hb : SimE g W tb fb) : SimE g W (tIf t ta tb) (fIf ft fa fb) := by
  intro H0 sp ι h H env σ Q R E w
  refine ht H0 sp ι h H env σ _ R E (WP.bnd w fun x h1 ι1 H1 R1 S1 w1 => ?_)
  cases x with
  | true => rw [if_pos rfl] at w1 ⊢; exact ha H0 sp ι1 h1 H1 env σ Q R1 (E.mono S1) w1
  | false => rw [if_neg Bool.false_ne_true] at w1 ⊢; exact hb H0 sp ι1 h1 H1 env σ Q R1 (E.mono S1) w1

/-! ### built-ins by name -/
def fCB (f : List D → Hs → R D) (fa : FA) : FE := fun env h => (fa env h).bnd fun xs h1 => f xs h1
theorem sim_cb {r : List V → Hp → VK → Prop} {f : List D → Hs → R D} {ta : TA} {fa : FA} (hr : SimC g r f) (ha : SimA g W ta fa) : SimE g W (tCB r ta) (fCB f fa) := by
  intro H0 sp ι h H env σ Q R E w
  refine ha H0 sp ι h H env σ _ R E (WP.bnd w fun x h1 ι1 H1 R1 S1 w1 v1 q1 => ?_)
  exact hr H0 sp ι1 h1 H1 x v1 W Q R1 q1 w1
end

/-! ### slices' bounds -/
def fNo : FO := fun _ h => .ok none h
def fSo (fe : FE) : FO := fun env h => (fe env h).bnd fun x h1 => match x with
  | .int i => .ok (some i) h1
  | _ => .no
section
variable {g : G} {W : Wx} {te : TE} {fe : FE}
theorem sim_no : SimO g W tNoPart fNo := fun _ _ _ _ _ _ _ _ r _ w => w.here r
theorem sim_so (ha : SimE g W te fe) : SimO g W (tPart te) (fSo fe) := by
  intro H0 sp ι h H env σ Q R E w
  refine ha H0 sp ι h H env σ _ R E (WP.bnd w fun x h1 ι1 H1 R1 S1 w1 v1 q1 => ?_)
  cases x with
  | int i => exact ⟨i, q1, w1.here R1⟩
  | _ => exact w1.elim
def SimSl (g : G) (r : V → Option Int → Option Int → Hp → VK → Prop) (f : D → Option Int → Option Int → Hs → R D) : Prop := ∀ (H0 : Hp) (sp ι : List Addr) (h : Hs) (H : Hp) (x : D) (lo hi : Option Int) (vx : V) (W : Wx) (Q : VK), Rel g.K H0 sp ι h H → VR g.K ι H x vx →
  WP g H0 sp W ι H (f x lo hi h) (fun d _ ι' H' => ∀ v, VR g.K ι' H' d v → Q v H') → r vx lo hi H Q
def fSl (f : D → Option Int → Option Int → Hs → R D) (fe : FE) (fl fu : FO) : FE := fun env h => (fe env h).bnd fun x h1 => (fl env h1).bnd fun lo h2 => (fu env h2).bnd fun hi h3 => f x lo hi h3
theorem sim_sl {r : V → Option Int → Option Int → Hp → VK → Prop} {f : D → Option Int → Option Int → Hs → R D} {tl tu : TO} {fl fu : FO} (hr : SimSl g r f) (ha : SimE g W te fe) (hl : SimO g W tl fl) (hu : SimO g W tu fu) : SimE g W (tSl r te tl tu) (fSl f fe fl fu) := by
  intro H0 sp ι h H env σ Q R E w
  refine ha H0 sp ι h H env σ _ R E (WP.bnd w fun x h1 ι1 H1 R1 S1 w1 v1 q1 => ?_)
  refine hl H0 sp ι1 h1 H1 env σ _ R1 (E.mono S1) (WP.bnd w1 fun lo h2 ι2 H2 R2 S2 w2 => ?_)
  refine hu H0 sp ι2 h2 H2 env σ _ R2 (E.mono (S1.trans S2)) (WP.bnd w2 fun hi h3 ι3 H3 R3 S3 w3 => ?_)
  exact hr H0 sp ι3 h3 H3 x lo hi v1 W Q R3 (VR.mono (S2.trans S3) _ _ q1) w3
end
end PF
namespace PF
open PySem PySem.Spec PyProof.Rows L2

/-- a list's items -/
def lof (h : Hs) : D → Option (List D)
  | .lst ds => some ds
  | .ref n => match h[n]? with
    | some (.lst ds) => some ds
    | _ => none
  | _ => none
@[simp] theorem lof_lst (h : Hs) (ds : List D) : lof h (.lst ds) = some ds := rfl
section
variable {K : PySem.W.Frag} {H0 : Hp} {sp ι : List Addr} {h : Hs} {H : Hp}
theorem lof_ok (R : Rel K H0 sp ι h H) {d : D} {v : V} {ds : List D} (q : VR K ι H d v) (e : lof h d = some ds) : ∃ a vs, v = .ref a ∧ H a = some (.lst vs) ∧ VRs K ι H ds vs := by
  cases d with
  | lst xs =>
    cases e
    unfold VR at q
    obtain ⟨a, vs, e1, e2, _, e3⟩ := q
    exact ⟨a, vs, e1, e2, e3⟩
  | ref n =>
    unfold VR at q
    obtain ⟨a, e1, e2⟩ := q
    unfold lof at e
    cases hn : h[n]? with
    | none => simp only [hn] at e; cases e
    | some o =>
      simp only [hn] at e
      cases o with
      | lst xs =>
        cases e
        obtain ⟨b, h1, vs, h2, h3⟩ := R.ob n _ hn
        rw [e2] at h1; cases h1
        exact ⟨a, vs, e1, h2, h3⟩
      | dct b => cases e
  | _ => cases e
end

/-! ### values without references -/
def dall (f : D → Option D) : List D → Option (List D)
  | [] => some []
  | d :: ds => match f d, dall f ds with
    | some x, some xs => some (x :: xs)
    | _, _ => none
def dref (h : Hs) : Nat → D → Option D
  | 0, d => if d.nor = true then some d else none
  | k + 1, d => if d.nor = true then some d else match d with
    | .ref n => match h[n]? with
      | some (.lst ds) => if nors ds = true then some (.lst ds) else (dall (dref h k) ds).map .lst
      | _ => none
    | .tup ds => (dall (dref h k) ds).map .tup
    | _ => none
theorem dref_nor {h : Hs} {k : Nat} {d : D} (e : d.nor = true) : dref h k d = some d := by
  cases k <;> (unfold dref; rw [if_pos e])
section
variable {K : PySem.W.Frag} {H0 : Hp} {sp ι S : List Addr} {h : Hs} {H : Hp}
theorem dall_ok {f : D → Option D} (hf : ∀ d v d', VR K ι H d v → f d = some d' → VR K S H d' v) : ∀ {ds ds' : List D} {vs : List V}, VRs K ι H ds vs → dall f ds = some ds' → VRs K S H ds' vs
  | [], ds', vs, q, e => by cases e; exact q
  | d :: ds, ds', vs, q, e => by
    obtain ⟨v, r, rfl, q1, q2⟩ := VRs.cons_iff.mp q
    unfold dall at e
    cases h1 : f d with
    | none => rw [h1] at e; cases e
    | some x =>
      cases h2 : dall f ds with
      | none => rw [h1, h2] at e; cases e
      | some xs =>
        rw [h1, h2] at e
        cases e
        exact .cons (hf d v x q1 h1) (dall_ok hf q2 h2)
theorem dref_ok (hS : ∀ a, a ∈ S → a ∈ ι) (hob : ∀ (n : Nat) (ds : List D), h[n]? = some (.lst ds) → ∃ a vs, ι[n]? = some a ∧ H a = some (.lst vs) ∧ VRs K ι H ds vs ∧ a ∉ S) : ∀ (k : Nat) (d : D) (v : V) (d' : D), VR K ι H d v → dref h k d = some d' → VR K S H d' v := by
  have nr : ∀ (d : D) (v : V), d.nor = true → VR K ι H d v → VR K S H d v := fun d v e q => VR.sub hS d v e q
  intro k
  induction k with
  | zero =>
    intro d v d' q e
    unfold dref at e
    by_cases c : d.nor = true
    · rw [if_pos c] at e; cases e; exact nr d v c q
    · rw [if_neg c] at e; cases e
  | succ k ih =>
    intro d v d' q e
    unfold dref at e
    by_cases c : d.nor = true
    · rw [if_pos c] at e; cases e; exact nr d v c q
    · rw [if_neg c] at e
      cases d with
      | ref n =>
        cases h1 : h[n]? with
        | none => simp only [h1] at e; cases e
        | some o =>
          cases o with
          | dct b => simp only [h1] at e; cases e
          | lst ds =>
            simp only [h1] at e
            unfold VR at q
            obtain ⟨a, rfl, e2⟩ := q
            obtain ⟨b, vs, e3, e4, e5, na⟩ := hob n _ h1
            rw [e2] at e3; cases e3
            by_cases c2 : nors ds = true
            · rw [if_pos c2] at e; cases e
              unfold VR
              exact ⟨a, vs, rfl, e4, na, VRs.sub hS ds vs c2 e5⟩
            · rw [if_neg c2] at e
              cases h2 : dall (dref h k) ds with
              | none => rw [h2] at e; cases e
              | some ds' =>
                rw [h2] at e; cases e
                unfold VR
                exact ⟨a, vs, rfl, e4, na, dall_ok ih e5 h2⟩
      | tup ds =>
        simp only at e
        unfold VR at q
        obtain ⟨a, vs, rfl, e4, e5⟩ := q
        cases h2 : dall (dref h k) ds with
        | none => rw [h2] at e; cases e
        | some ds' =>
          rw [h2] at e; cases e
          unfold VR
          exact ⟨a, vs, rfl, e4, dall_ok ih e5 h2⟩
      | _ => simp only at e; cases e
theorem dref_nil (R : Rel K H0 sp ι h H) {k : Nat} {d d' : D} {v : V} (q : VR K ι H d v) (e : dref h k d = some d') : VR K [] H d' v :=
  dref_ok (fun _ m => by cases m) (fun n ds e => let ⟨a, h1, vs, h2, h3⟩ := R.ob n _ e; ⟨a, vs, h1, h2, h3, fun m => by cases m⟩) k d v d' q e
end

/-! ### == -/
mutual
def deq : D → D → Bool
  | .non, .non => true
  | .bl a, .bl b => a == b
  | .bl a, .int j => (if a then 1 else 0) == j
  | .int i, .bl b => i == (if b then 1 else 0)
  | .int i, .int j => i == j
  | .str x, .str y => x == y
  | .lst xs, .lst ys => deqs xs ys
  | .tup xs, .tup ys => deqs xs ys
  | _, _ => false
def deqs : List D → List D → Bool
  | [], [] => true
  | x :: xs, y :: ys => deq x y && deqs xs ys
  | _, _ => false
end
mutual
def dpt : D → Nat
  | .tup xs => dpts xs + 1
  | .lst xs => dpts xs + 1
  | _ => 0
def dpts : List D → Nat
  | [] => 0
  | x :: xs => max (dpt x) (dpts xs)
end
mutual
def toPy : D → PyData
  | .non => .none
  | .bl b => .bool b
  | .int i => .int i
  | .str s => .str (mk s)
  | .tup xs => .tuple (toPys xs)
  | .lst xs => .list (toPys xs)
  | .ref _ => .none
  | .scr _ => .none
def toPys : List D → List PyData
  | [] => []
  | x :: xs => toPy x :: toPys xs
end
mutual
theorem toPy_depth : ∀ d : D, (toPy d).depth = dpt d
  | .non => by simp [toPy, PyData.depth, dpt]
  | .bl _ => by simp [toPy, PyData.depth, dpt]
  | .int _ => by simp [toPy, PyData.depth, dpt]
  | .str _ => by simp [toPy, PyData.depth, dpt]
  | .tup xs => by simp [toPy, PyData.depth, dpt, toPys_depth xs]
  | .lst xs => by simp [toPy, PyData.depth, dpt, toPys_depth xs]
  | .ref _ => by simp [toPy, PyData.depth, dpt]
  | .scr _ => by simp [toPy, PyData.depth, dpt]
theorem toPys_depth : ∀ ds : List D, PyData.depthAll (toPys ds) = dpts ds
  | [] => by simp [toPys, PyData.depthAll, dpts]
  | x :: xs => by simp [toPys, PyData.depthAll, dpts, toPy_depth x, toPys_depth xs]
end
mutual
theorem toPy_eqv : ∀ d e : D, d.nor = true → e.nor = true → PyData.eqv (toPy d) (toPy e) = deq d e
  | .tup xs, .tup ys, p, q => by
    simp only [toPy, PyData.eqv, deq]
    exact toPys_eqv xs ys (by simpa using p) (by simpa using q)
  | .lst xs, .lst ys, p, q => by
    simp only [toPy, PyData.eqv, deq]
    exact toPys_eqv xs ys (by simpa using p) (by simpa using q)
  | .str x, .str y, p, q => by
    simp only [toPy, PyData.eqv, deq]
    rw [Bool.eq_iff_iff]
    simp [mk]
  | .ref _, _, p, _ => by cases p
  | .scr _, _, p, _ => by cases p
  | .non, e, _, q => by cases e <;> first | rfl | (cases q)
  | .bl _, e, _, q => by cases e <;> first | rfl | (cases q)
  | .int _, e, _, q => by cases e <;> first | rfl | (cases q)
  | .str _, .non, _, _ => rfl
  | .str _, .bl _, _, _ => rfl
  | .str _, .int _, _, _ => rfl
  | .str _, .tup _, _, _ => rfl
  | .str _, .lst _, _, _ => rfl
  | .str _, .ref _, _, q => by cases q
  | .str _, .scr _, _, q => by cases q
  | .tup _, .non, _, _ => rfl
  | .tup _, .bl _, _, _ => rfl
  | .tup _, .int _, _, _ => rfl
  | .tup _, .str _, _, _ => rfl
  | .tup _, .lst _, _, _ => rfl
  | .tup _, .ref _, _, q => by cases q
  | .tup _, .scr _, _, q => by cases q
  | .lst _, .non, _, _ => rfl
  | .lst _, .bl _, _, _ => rfl
  | .lst _, .int _, _, _ => rfl
  | .lst _, .str _, _, _ => rfl
  | .lst _, .tup _, _, _ => rfl
  | .lst _, .ref _, _, q => by cases q
  | .lst _, .scr _, _, q => by cases q
theorem toPys_eqv : ∀ ds es : List D, nors ds = true → nors es = true → PyData.eqvAll (toPys ds) (toPys es) = deqs ds es
  | [], [], _, _ => rfl
  | [], _ :: _, _, _ => rfl
  | _ :: _, [], _, _ => rfl
  | x :: xs, y :: ys, p, q => by
    rw [nors_cons, Bool.and_eq_true] at p q
    simp only [toPys, PyData.eqvAll, deqs]
    rw [toPy_eqv x y p.1 q.1, toPys_eqv xs ys p.2 q.2]
end
section
variable {K : PySem.W.Frag} {ι : List Addr} {H : Hp}
mutual
theorem VR.dp : ∀ (d : D) (v : V), d.nor = true → VR K ι H d v → Dp K H v (toPy d) ∧ (toPy d).canLay0 = true
  | .non, v, _, h => by
    have e : v = .non := h
    subst e; exact ⟨.non, rfl⟩
  | .bl b, v, _, h => by
    have e : v = .bl b := h
    subst e; exact ⟨.bl b, rfl⟩
  | .int i, v, _, h => by
    have e : v = .int i := h
    subst e; exact ⟨.int i, rfl⟩
  | .str s, v, _, h => by
    unfold VR at h
    obtain ⟨e, _, hc⟩ := h
    subst e
    refine ⟨.str _, ?_⟩
    simp only [toPy, PyData.canLay0, PyData.strOk]
    rw [Array.all_eq_true]
    intro i hi
    have hi' : i < s.length := by simpa using hi
    have := hc (s[i]) (List.getElem_mem hi')
    simpa using this
  | .tup xs, v, p, h => by
    unfold VR at h
    obtain ⟨a, vs, e, q, r⟩ := h
    subst e
    obtain ⟨h1, h2⟩ := VRs.dp xs vs (by simpa using p) r
    exact ⟨.tup q h1, by simpa [toPy, PyData.canLay0] using h2⟩
  | .lst xs, v, p, h => by
    unfold VR at h
    obtain ⟨a, vs, e, q, _, r⟩ := h
    subst e
    obtain ⟨h1, h2⟩ := VRs.dp xs vs (by simpa using p) r
    exact ⟨.lst (SqL.of q) h1, by simpa [toPy, PyData.canLay0] using h2⟩
  | .ref _, _, p, _ => by cases p
  | .scr _, _, p, _ => by cases p
theorem VRs.dp : ∀ (ds : List D) (vs : List V), nors ds = true → VRs K ι H ds vs → DpAll K H vs (toPys ds) ∧ PyData.canLayAll0 (toPys ds) = true
  | [], vs, _, h => by
    rw [VRs.nil_iff.mp h]; exact ⟨.nil, rfl⟩
  | d :: ds, vs, p, h => by
    obtain ⟨v, r, rfl, q1, q2⟩ := VRs.cons_iff.mp h
    rw [nors_cons, Bool.and_eq_true] at p
    obtain ⟨a1, a2⟩ := VR.dp d v p.1 q1
    obtain ⟨b1, b2⟩ := VRs.dp ds r p.2 q2
    exact ⟨.cons a1 b1, by simp [toPys, PyData.canLayAll0, a2, b2]⟩
end
end
mutual
theorem dref_is_nor {h : Hs} : ∀ (k : Nat) (d d' : D), dref h k d = some d' → d'.nor = true
  | 0, d, d', e => by
    unfold dref at e
    by_cases c : d.nor = true
    · rw [if_pos c] at e; cases e; exact c
    · rw [if_neg c] at e; cases e
  | k + 1, d, d', e => by
    unfold dref at e
    by_cases c : d.nor = true
    · rw [if_pos c] at e; cases e; exact c
    · rw [if_neg c] at e
      cases d with
      | ref n =>
        cases h1 : h[n]? with
        | none => simp only [h1] at e; cases e
        | some o =>
          cases o with
          | dct b => simp only [h1] at e; cases e
          | lst ds =>
            simp only [h1] at e
            by_cases c2 : nors ds = true
            · rw [if_pos c2] at e; cases e; rw [nor_lst]; exact c2
            · rw [if_neg c2] at e
              cases h2 : dall (dref h k) ds with
              | none => rw [h2] at e; cases e
              | some ds' => rw [h2] at e; cases e; rw [nor_lst]; exact drefs_is_nor k ds ds' h2
      | tup ds =>
        simp only at e
        cases h2 : dall (dref h k) ds with
        | none => rw [h2] at e; cases e
        | some ds' => rw [h2] at e; cases e; rw [nor_tup]; exact drefs_is_nor k ds ds' h2
      | _ => simp only at e; cases e
theorem drefs_is_nor {h : Hs} : ∀ (k : Nat) (ds ds' : List D), dall (dref h k) ds = some ds' → nors ds' = true
  | k, [], ds', e => by cases e; rfl
  | k, d :: ds, ds', e => by
    unfold dall at e
    cases h1 : dref h k d with
    | none => rw [h1] at e; cases e
    | some x =>
      cases h2 : dall (dref h k) ds with
      | none => rw [h1, h2] at e; cases e
      | some xs =>
        rw [h1, h2] at e
        cases e
        rw [nors_cons, dref_is_nor k d x h1, drefs_is_nor k ds xs h2]; rfl
end
def eqD (x y : D) (h : Hs) : R D := match dref h 6 x, dref h 6 y with
  | some a, some b => if dpt a ≤ 60 ∧ dpt b ≤ 60 then .ok (.bl (deq a b)) h else .no
  | _, _ => .no
def neD (x y : D) (h : Hs) : R D := match dref h 6 x, dref h 6 y with
  | some a, some b => if dpt a ≤ 60 ∧ dpt b ≤ 60 then .ok (.bl (!deq a b)) h else .no
  | _, _ => .no
section
variable {g : G}
theorem shaped_of {d : D} (h1 : (toPy d).canLay0 = true) (h2 : dpt d ≤ 60) : SeqAt.shaped (toPy d) = true := by
  unfold SeqAt.shaped
  rw [h1, toPy_depth, Bool.true_and]
  exact decide_eq_true (by omega)
theorem sim_eq : SimR2 g (rEqD g.K) eqD := by
  intro H0 sp ι h H x y vx vy W Q R qx qy w
  unfold eqD at w
  cases h1 : dref h 6 x with
  | none => rw [h1] at w; exact w.elim
  | some a =>
    cases h2 : dref h 6 y with
    | none => rw [h1, h2] at w; exact w.elim
    | some b =>
      rw [h1, h2] at w
      obtain ⟨⟨d1, d2⟩, w⟩ := ifN w
      have n1 := dref_is_nor 6 x a h1
      have n2 := dref_is_nor 6 y b h2
      obtain ⟨p1, c1⟩ := VR.dp a vx n1 (dref_nil R qx h1)
      obtain ⟨p2, c2⟩ := VR.dp b vy n2 (dref_nil R qy h2)
      refine ⟨_, _, p1, p2, shaped_of c1 d1, shaped_of c2 d2, ?_⟩
      rw [toPy_eqv a b n1 n2]
      exact w.here R _ rfl
theorem sim_ne : SimR2 g (rNeD g.K) neD := by
  intro H0 sp ι h H x y vx vy W Q R qx qy w
  unfold neD at w
  cases h1 : dref h 6 x with
  | none => rw [h1] at w; exact w.elim
  | some a =>
    cases h2 : dref h 6 y with
    | none => rw [h1, h2] at w; exact w.elim
    | some b =>
      rw [h1, h2] at w
      obtain ⟨⟨d1, d2⟩, w⟩ := ifN w
      have n1 := dref_is_nor 6 x a h1
      have n2 := dref_is_nor 6 y b h2
      obtain ⟨p1, c1⟩ := VR.dp a vx n1 (dref_nil R qx h1)
      obtain ⟨p2, c2⟩ := VR.dp b vy n2 (dref_nil R qy h2)
      refine ⟨_, _, p1, p2, shaped_of c1 d1, shaped_of c2 d2, ?_⟩
      rw [toPy_eqv a b n1 n2]
      exact w.here R _ rfl
end
end PF
namespace PF
open PySem PySem.Spec PyProof.Rows L2
section
variable {X : Cx} {g : G}

/-! ### arithmetic -/
/-- + of ints, texts, lists, tuples -/
def uAdd (K : PySem.W.Frag) : R2 := fun x y H Q => rI0 (fun i j => .int (i + j)) x y H Q ∨ (fun x y H Q => ∃ i j, x = .str i ∧ y = .str j ∧ i.length + j.length ≤ sizeLine ∧ Q (.str (i ++ j)) H) x y H Q ∨ rCat x y H Q ∨ rCatA K x y H Q
theorem op_uAdd : OpR X (binaryOp .Add) (uAdd X.K) := op_add.or (op_add_str.or (op_cat.or op_catA))
def addD : D → D → Hs → R D
  | .int i, .int j, h => .ok (.int (i + j)) h
  | .str s, .str t, h => if s.length + t.length ≤ 16777216 then .ok (.str (s ++ t)) h else .no
  | .tup s, .tup t, h => if s.length + t.length ≤ 16777216 then .ok (.tup (s ++ t)) h else .no
  | x, y, h => match lof h x, lof h y with
    | some a, some b => if a.length + b.length ≤ 16777216 then .ok (.ref h.length) (h ++ [.lst (a ++ b)]) else .no
    | _, _ => .no
theorem mk_app (s t : List Nat) : mk s ++ mk t = mk (s ++ t) := by
  show (⟨s.toArray ++ t.toArray⟩ : Str) = ⟨(s ++ t).toArray⟩
  rw [List.append_toArray]
theorem mk_len (s : List Nat) : (mk s).length = s.length := by
  show s.toArray.size = s.length
  exact List.size_toArray ..
theorem VR.strI {K : PySem.W.Frag} {ι : List Addr} {H : Hp} {s : List Nat} (h1 : s.length ≤ 16777216) (h2 : ∀ c ∈ s, c < 1114112) : VR K ι H (.str s) (.str (mk s)) := by
  unfold VR; exact ⟨rfl, h1, h2⟩
theorem VR.strE {K : PySem.W.Frag} {ι : List Addr} {H : Hp} {s : List Nat} {v : V} (h : VR K ι H (.str s) v) : v = .str (mk s) ∧ s.length ≤ 16777216 ∧ ∀ c ∈ s, c < 1114112 := by
  unfold VR at h; exact h
theorem VR.tupE {K : PySem.W.Frag} {ι : List Addr} {H : Hp} {s : List D} {v : V} (h : VR K ι H (.tup s) v) : ∃ a vs, v = .ref a ∧ SqT K H a vs ∧ VRs K ι H s vs := by
  unfold VR at h; exact h
theorem VR.tupI {K : PySem.W.Frag} {ι : List Addr} {H : Hp} {s : List D} {a : Addr} {vs : List V} (h : SqT K H a vs) (q : VRs K ι H s vs) : VR K ι H (.tup s) (.ref a) := by
  unfold VR; exact ⟨a, vs, rfl, h, q⟩
theorem sim_add : SimR2 g (uAdd g.K) addD := by
  intro H0 sp ι h H x y vx vy W Q R qx qy w
  unfold addD at w
  split at w
  · exact .inl ⟨_, _, qx, qy, w.here R _ rfl⟩
  · obtain ⟨hl, w⟩ := ifN w
    obtain ⟨rfl, l1, c1⟩ := qx.strE
    obtain ⟨rfl, l2, c2⟩ := qy.strE
    refine .inr (.inl ⟨_, _, rfl, rfl, by rw [mk_len, mk_len]; exact szl hl, ?_⟩)
    rw [mk_app]
    exact w.here R _ (.strI (by simpa using hl) fun c hc => (List.mem_append.mp hc).elim (c1 c) (c2 c))
  · obtain ⟨hl, w⟩ := ifN w
    obtain ⟨a, vs, rfl, p1, r1⟩ := qx.tupE
    obtain ⟨b, ws, rfl, p2, r2⟩ := qy.tupE
    refine .inr (.inr (.inr ⟨a, b, vs, ws, rfl, rfl, p1, p2, by rw [← r1.length, ← r2.length]; exact szl hl, fun e => ?_, fun _ e => ?_, fun _ _ p hp => ?_⟩))
    · subst e
      refine w.here R _ (.tupI p2 ?_)
      have e0 : _ = [] := List.eq_nil_of_length_eq_zero (by simpa using r1.length)
      rw [e0]; exact r2
    · subst e
      refine w.here R _ (.tupI p1 ?_)
      have e0 : _ = [] := List.eq_nil_of_length_eq_zero (by simpa using r2.length)
      rw [e0, List.append_nil]; exact r1
    · obtain ⟨x1, x2⟩ := newT R (r1.app r2) hp
      exact w.at x1 _ x2
  · split at w
    · rename_i a b e1 e2
      obtain ⟨hl, w⟩ := ifN w
      obtain ⟨p, vs, rfl, p1, r1⟩ := lof_ok R qx e1
      obtain ⟨q, ws, rfl, p2, r2⟩ := lof_ok R qy e2
      refine .inr (.inr (.inl ⟨p, q, vs, ws, rfl, rfl, p1, p2, by rw [← r1.length, ← r2.length]; exact szl hl, fun n hn => ?_⟩))
      obtain ⟨x1, x2⟩ := newL R (r1.app r2) hn
      exact w.at x1 _ x2
    · exact w.elim
def subD : D → D → Hs → R D
  | .int i, .int j, h => .ok (.int (i - j)) h
  | _, _, _ => .no
theorem sim_sub : SimR2 g (rI0 fun i j => .int (i - j)) subD := by
  intro H0 sp ι h H x y vx vy W Q R qx qy w
  unfold subD at w
  split at w
  · exact ⟨_, _, qx, qy, w.here R _ rfl⟩
  · exact w.elim
/-- // and % by any small number but 0 -/
def fdivD : D → D → Hs → R D
  | .int i, .int j, h => if j ≠ 0 ∧ j.natAbs < 1073741824 then .ok (.int (i.fdiv j)) h else .no
  | _, _, _ => .no
def modD : D → D → Hs → R D
  | .int i, .int j, h => if j ≠ 0 then .ok (.int (i.fmod j)) h else .no
  | _, _, _ => .no
theorem sim_fdiv : SimR2 g (rI CDivN fun i j => .int (i.fdiv j)) fdivD := by
  intro H0 sp ι h H x y vx vy W Q R qx qy w
  unfold fdivD at w
  split at w
  · obtain ⟨hc, w⟩ := ifN w
    exact ⟨_, _, qx, qy, hc, w.here R _ rfl⟩
  · exact w.elim
theorem sim_mod : SimR2 g (rI (fun _ j => j ≠ 0) fun i j => .int (i.fmod j)) modD := by
  intro H0 sp ι h H x y vx vy W Q R qx qy w
  unfold modD at w
  split at w
  · obtain ⟨hc, w⟩ := ifN w
    exact ⟨_, _, qx, qy, hc, w.here R _ rfl⟩
  · exact w.elim
def powD : D → D → Hs → R D
  | .int i, .int j, h => if 0 ≤ j ∧ j ≤ 1000000 ∧ i.natAbs < 18446744073709551616 then .ok (.int (i ^ j.toNat)) h else .no
  | _, _, _ => .no
theorem sim_pow : SimR2 g (rI CPow fun i j => .int (i ^ j.toNat)) powD := by
  intro H0 sp ι h H x y vx vy W Q R qx qy w
  unfold powD at w
  split at w
  · obtain ⟨hc, w⟩ := ifN w
    exact ⟨_, _, qx, qy, hc, w.here R _ rfl⟩
  · exact w.elim
/-- text * n -/
theorem foldl_app (x : Array Nat) : ∀ (n : Nat) (acc : Array Nat), (List.replicate n x).foldl (· ++ ·) acc = acc ++ ((List.replicate n x.toList).flatten).toArray
  | 0, acc => by simp
  | n + 1, acc => by
    rw [List.replicate_succ, List.foldl_cons, foldl_app x n, List.replicate_succ, List.flatten_cons, ← List.append_toArray, ← Array.append_assoc]
theorem len_rep {α : Type} (n : Nat) (s : List α) : ((List.replicate n s).flatten).length = n * s.length := by
  induction n with
  | zero => simp
  | succ n ih => rw [List.replicate_succ, List.flatten_cons, List.length_append, ih, Nat.succ_mul, Nat.add_comm]
def rRepS : R2 := fun x y H Q => ∃ (s : Str) (k : Int), x = .str s ∧ y = .int k ∧ -(2 ^ 63) ≤ k ∧ k < 2 ^ 63 ∧ s.length * k.toNat ≤ 16777216 ∧ Q (.str ⟨((List.replicate k.toNat s.cps.toList).flatten).toArray⟩) H
theorem op_repS : OpR X (binaryOp .Mult) rRepS := by
  intro pins s σ H x y v u Q I rx ry h
  obtain ⟨z, k, rfl, rfl, h1, h2, hz, q⟩ := h
  obtain ⟨t, rfl⟩ := rx
  obtain ⟨t', rfl⟩ := ry
  have e0 : (z.length : Int) = ((z.cps.size : Nat) : Int) := rfl
  have hl : ∀ (m : Nat), z.length * m = z.cps.size * m := fun _ => rfl
  refine PySem.P.mul_str ?_ (fun c1 c2 => ?_) (fun c1 c2 => ?_) ?_
  · rw [decide_eq_false (by omega), decide_eq_false (by omega)]; rfl
  · intro hgt
    have hk : (1 : Int) < k := by
      rw [Bool.or_eq_false_iff] at c2
      have : ¬ k = 1 := fun e => by rw [e] at c2; exact absurd c2.1 (by decide)
      omega
    have a1 : (z.length : Int) * k ≤ 16777216 := by
      have : ((z.length * k.toNat : Nat) : Int) ≤ ((16777216 : Nat) : Int) := Int.ofNat_le.mpr hz
      rw [Int.natCast_mul, Int.toNat_of_nonneg (by omega)] at this
      exact this
    have a2 : (2 ^ 63 - 1 : Int) / k + 1 ≤ (z.length : Int) := by omega
    have a3 : (2 ^ 63 - 1 : Int) < ((2 ^ 63 - 1 : Int) / k + 1) * k := by
      have := Int.lt_ediv_add_one_mul_self (2 ^ 63 - 1 : Int) (show (0 : Int) < k by omega)
      exact this
    have a4 : ((2 ^ 63 - 1 : Int) / k + 1) * k ≤ (z.length : Int) * k := Int.mul_le_mul_of_nonneg_right a2 (by omega)
    omega
  · show Builtin.Str.tooLong (z.length * k.toNat) = false
    unfold Builtin.Str.tooLong
    rw [sizeLine_eq]
    simp
    exact hz
  · by_cases c : k < 1
    · rw [if_pos c]
      have e : k.toNat = 0 := by omega
      rw [e] at q
      exact ⟨by decide, .str _, H, I.tok _, ⟨_, rfl⟩, q⟩
    · rw [if_neg c]
      by_cases c2 : (k == 1 || z.length == 0) = true
      · rw [if_pos c2]
        rw [Bool.or_eq_true] at c2
        have e : (⟨((List.replicate k.toNat z.cps.toList).flatten).toArray⟩ : Str) = z := by
          rcases c2 with c2 | c2
          · have : k = 1 := by simpa using c2
            subst this
            show (⟨((List.replicate 1 z.cps.toList).flatten).toArray⟩ : Str) = z
            simp
          · have : z.cps.size = 0 := by
              have : z.length = 0 := by simpa using c2
              exact this
            have e2 : z.cps = #[] := Array.eq_empty_of_size_eq_zero this
            cases z with
            | mk cps =>
              simp only at e2
              subst e2
              simp
        rw [e] at q
        exact ⟨.str z, H, I, ⟨t, rfl⟩, q⟩
      · rw [if_neg c2]
        have e : (List.replicate k.toNat z.cps).foldl (· ++ ·) #[] = ((List.replicate k.toNat z.cps.toList).flatten).toArray := by
          rw [foldl_app]; simp
        refine ⟨?_, .str _, H, I.tok _, ⟨_, rfl⟩, ?_⟩
        · show ((List.replicate k.toNat z.cps).foldl (· ++ ·) #[]).size ≤ sizeLine
          rw [e, List.size_toArray, len_rep, sizeLine_eq, Nat.mul_comm]
          exact hz
        · rw [e]; exact q
def uMul (K : PySem.W.Frag) : R2 := fun x y H Q => rI CMul (fun i j => .int (i * j)) x y H Q ∨ rRepS x y H Q ∨ rRep x y H Q
theorem op_uMul : OpR X (binaryOp .Mult) (uMul X.K) := op_mul.or (op_repS.or op_rep)
def mulD : D → D → Hs → R D
  | .int i, .int j, h => if i.natAbs < 18446744073709551616 ∨ j.natAbs < 18446744073709551616 then .ok (.int (i * j)) h else .no
  | .str s, .int k, h => if k.natAbs < 1000000000 ∧ s.length * k.toNat ≤ 16777216 then .ok (.str (List.replicate k.toNat s).flatten) h else .no
  | x, .int k, h => match lof h x with
    | some a => if k.natAbs < 1000000000 ∧ a.length * k.toNat ≤ 16777216 then .ok (.ref h.length) (h ++ [.lst (List.replicate k.toNat a).flatten]) else .no
    | _ => .no
  | _, _, _ => .no
theorem VRs.rep {K : PySem.W.Frag} {ι : List Addr} {H : Hp} {ds : List D} {vs : List V} (h : VRs K ι H ds vs) : ∀ k : Nat, VRs K ι H (List.replicate k ds).flatten (List.replicate k vs).flatten
  | 0 => rfl
  | k + 1 => by
    rw [List.replicate_succ, List.flatten_cons, List.replicate_succ, List.flatten_cons]
    exact h.app (VRs.rep h k)
theorem sim_mul : SimR2 g (uMul g.K) mulD := by
  intro H0 sp ι h H x y vx vy W Q R qx qy w
  unfold mulD at w
  split at w
  · obtain ⟨hc, w⟩ := ifN w
    exact .inl ⟨_, _, qx, qy, by unfold CMul; omega, w.here R _ rfl⟩
  · obtain ⟨⟨hk, hl⟩, w⟩ := ifN w
    obtain ⟨rfl, l1, c1⟩ := qx.strE
    refine .inr (.inl ⟨_, _, rfl, qy, by omega, by omega, by rw [mk_len]; exact hl, ?_⟩)
    have e : (⟨((List.replicate (Int.toNat ‹Int›) (mk ‹List Nat›).cps.toList).flatten).toArray⟩ : Str) = mk (List.replicate (Int.toNat ‹Int›) ‹List Nat›).flatten := by simp [mk]
    refine w.here R _ (.strI ?_ ?_)
    · rw [len_rep, Nat.mul_comm]; exact hl
    · intro c hc
      obtain ⟨l, h1, h2⟩ := List.mem_flatten.mp hc
      rw [(List.mem_replicate.mp h1).2] at h2
      exact c1 c h2
  · split at w
    · rename_i a e1
      obtain ⟨⟨hk, hl⟩, w⟩ := ifN w
      obtain ⟨p, vs, rfl, p1, r1⟩ := lof_ok R qx e1
      refine .inr (.inr ⟨p, _, vs, rfl, qy, p1, by omega, by omega, by rw [← r1.length]; exact szl hl, fun n hn => ?_⟩)
      obtain ⟨x1, x2⟩ := newL R (r1.rep _) hn
      exact w.at x1 _ x2
    · exact w.elim
  · exact w.elim
def negD : D → Hs → R D
  | .int i, h => .ok (.int (-i)) h
  | _, _ => .no
theorem sim_neg : SimU g (rU fun i => .int (-i)) negD := by
  intro H0 sp ι h H x vx W Q R qx w
  unfold negD at w
  split at w
  · exact ⟨_, qx, w.here R _ rfl⟩
  · exact w.elim

/-! ### order -/
def uLt : R2 := fun x y H Q => rI0 (fun i j => .bl (decide (i < j))) x y H Q ∨ (fun x y H Q => ∃ i j : Str, x = .str i ∧ y = .str j ∧ Q (.bl (decide (i.cps.toList < j.cps.toList))) H) x y H Q
def uLe : R2 := fun x y H Q => rI0 (fun i j => .bl (decide (i ≤ j))) x y H Q ∨ (fun x y H Q => ∃ i j : Str, x = .str i ∧ y = .str j ∧ Q (.bl (!decide (j.cps.toList < i.cps.toList))) H) x y H Q
def uGt : R2 := fun x y H Q => rI0 (fun i j => .bl (decide (j < i))) x y H Q ∨ (fun x y H Q => ∃ i j : Str, x = .str i ∧ y = .str j ∧ Q (.bl (decide (j.cps.toList < i.cps.toList))) H) x y H Q
def uGe : R2 := fun x y H Q => rI0 (fun i j => .bl (decide (j ≤ i))) x y H Q ∨ (fun x y H Q => ∃ i j : Str, x = .str i ∧ y = .str j ∧ Q (.bl (!decide (i.cps.toList < j.cps.toList))) H) x y H Q
theorem op_uLt : OpR X (compareOp .Lt) uLt := op_lt.or op_lt_str
theorem op_uLe : OpR X (compareOp .LtE) uLe := op_le.or op_le_str
theorem op_uGt : OpR X (compareOp .Gt) uGt := op_gt.or op_gt_str
theorem op_uGe : OpR X (compareOp .GtE) uGe := op_ge.or op_ge_str
def ltD : D → D → Hs → R D
  | .int i, .int j, h => .ok (.bl (decide (i < j))) h
  | .str s, .str t, h => .ok (.bl (decide (s < t))) h
  | _, _, _ => .no
def leD : D → D → Hs → R D
  | .int i, .int j, h => .ok (.bl (decide (i ≤ j))) h
  | .str s, .str t, h => .ok (.bl (!decide (t < s))) h
  | _, _, _ => .no
def gtD : D → D → Hs → R D
  | .int i, .int j, h => .ok (.bl (decide (j < i))) h
  | .str s, .str t, h => .ok (.bl (decide (t < s))) h
  | _, _, _ => .no
def geD : D → D → Hs → R D
  | .int i, .int j, h => .ok (.bl (decide (j ≤ i))) h
  | .str s, .str t, h => .ok (.bl (!decide (s < t))) h
  | _, _, _ => .no
theorem sim_lt : SimR2 g uLt ltD := by
  intro H0 sp ι h H x y vx vy W Q R qx qy w
  unfold ltD at w
  split at w
  · exact .inl ⟨_, _, qx, qy, w.here R _ rfl⟩
  · exact .inr ⟨_, _, qx.strE.1, qy.strE.1, w.here R _ rfl⟩
  · exact w.elim
theorem sim_le : SimR2 g uLe leD := by
  intro H0 sp ι h H x y vx vy W Q R qx qy w
  unfold leD at w
  split at w
  · exact .inl ⟨_, _, qx, qy, w.here R _ rfl⟩
  · exact .inr ⟨_, _, qx.strE.1, qy.strE.1, w.here R _ rfl⟩
  · exact w.elim
theorem sim_gt : SimR2 g uGt gtD := by
  intro H0 sp ι h H x y vx vy W Q R qx qy w
  unfold gtD at w
  split at w
  · exact .inl ⟨_, _, qx, qy, w.here R _ rfl⟩
  · exact .inr ⟨_, _, qx.strE.1, qy.strE.1, w.here R _ rfl⟩
  · exact w.elim
theorem sim_ge : SimR2 g uGe geD := by
  intro H0 sp ι h H x y vx vy W Q R qx qy w
  unfold geD at w
  split at w
  · exact .inl ⟨_, _, qx, qy, w.here R _ rfl⟩
  · exact .inr ⟨_, _, qx.strE.1, qy.strE.1, w.here R _ rfl⟩
  · exact w.elim
end
end PF
namespace PF
open PySem PySem.Spec PyProof.Rows L2
section
variable {X : Cx} {g : G}

/-! ### in -/
def uIn (K : PySem.W.Frag) : R2 := fun x y H Q => (fun x y H Q => ∃ (c : Nat) (z : Str), x = .str ⟨#[c]⟩ ∧ y = .str z ∧ Q (.bl (decide (c ∈ z.cps.toList))) H) x y H Q ∨ rInD K x y H Q ∨ rIn K false x y H Q
def uNotIn (K : PySem.W.Frag) : R2 := fun x y H Q => (fun x y H Q => ∃ (c : Nat) (z : Str), x = .str ⟨#[c]⟩ ∧ y = .str z ∧ Q (.bl (!decide (c ∈ z.cps.toList))) H) x y H Q ∨ rNotInD K x y H Q ∨ rIn K true x y H Q
theorem room65 {k : Nat} {A : Around} (r : Room k A) : A.units + 65 < cLine := by have := r.un; omega
theorem op_uIn {k : Nat} (hr : Room k X.A) : OpR X (compareOp .In) (uIn X.K) := op_in_sign.or ((op_inD (room65 hr)).or op_in_seq)
theorem op_uNotIn {k : Nat} (hr : Room k X.A) : OpR X (compareOp .NotIn) (uNotIn X.K) := op_notIn_sign.or ((op_notInD (room65 hr)).or op_notIn_seq)
def D.flat : D → Bool
  | .non => true
  | .bl _ => true
  | .int _ => true
  | .str _ => true
  | _ => false
def inB (x y : D) (h : Hs) : Option Bool := match y with
  | .str t => match x with
    | .str [c] => some (decide (c ∈ t))
    | _ => none
  | .tup ds => if x.flat = true ∧ ds.all D.flat = true then some (ds.any fun z => deq z x) else none
  | y => match dref h 6 x, dref h 6 y with
    | some a, some (.lst ds) => if dpt a ≤ 60 ∧ dpts ds ≤ 59 then some (ds.any fun z => deq z a) else none
    | _, _ => none
def inD (x y : D) (h : Hs) : R D := match inB x y h with
  | some b => .ok (.bl b) h
  | none => .no
def notInD (x y : D) (h : Hs) : R D := match inB x y h with
  | some b => .ok (.bl (!b)) h
  | none => .no
theorem VR.flat {K : PySem.W.Frag} {ι : List Addr} {H : Hp} {d : D} {v : V} (f : d.flat = true) (q : VR K ι H d v) : flatV v = true := by
  cases d with
  | non => have e : v = .non := q; subst e; rfl
  | bl b => have e : v = .bl b := q; subst e; rfl
  | int i => have e : v = .int i := q; subst e; rfl
  | str s => obtain ⟨rfl, _⟩ := q.strE; rfl
  | _ => cases f
theorem VR.flat_eq {K : PySem.W.Frag} {ι : List Addr} {H : Hp} {d e : D} {v w : V} (f : d.flat = true) (f' : e.flat = true) (q : VR K ι H d v) (q' : VR K ι H e w) : eqV v w = deq d e := by
  cases d with
  | non =>
    have e1 : v = .non := q
    subst e1
    cases e with
    | non => have e2 : w = .non := q'; subst e2; rfl
    | bl b => have e2 : w = .bl b := q'; subst e2; rfl
    | int b => have e2 : w = .int b := q'; subst e2; rfl
    | str b => obtain ⟨rfl, _⟩ := q'.strE; rfl
    | _ => cases f'
  | bl a =>
    have e1 : v = .bl a := q
    subst e1
    cases e with
    | non => have e2 : w = .non := q'; subst e2; rfl
    | bl b => have e2 : w = .bl b := q'; subst e2; rfl
    | int b => have e2 : w = .int b := q'; subst e2; rfl
    | str b => obtain ⟨rfl, _⟩ := q'.strE; rfl
    | _ => cases f'
  | int a =>
    have e1 : v = .int a := q
    subst e1
    cases e with
    | non => have e2 : w = .non := q'; subst e2; rfl
    | bl b => have e2 : w = .bl b := q'; subst e2; rfl
    | int b => have e2 : w = .int b := q'; subst e2; rfl
    | str b => obtain ⟨rfl, _⟩ := q'.strE; rfl
    | _ => cases f'
  | str a =>
    obtain ⟨rfl, _⟩ := q.strE
    cases e with
    | non => have e2 : w = .non := q'; subst e2; rfl
    | bl b => have e2 : w = .bl b := q'; subst e2; rfl
    | int b => have e2 : w = .int b := q'; subst e2; rfl
    | str b =>
      obtain ⟨rfl, _⟩ := q'.strE
      show (mk a == mk b) = deq (.str a) (.str b)
      unfold deq
      rw [Bool.eq_iff_iff]
      simp [mk]
    | _ => cases f'
  | _ => cases f
theorem any_py : ∀ {ds : List D} {a : D}, nors ds = true → a.nor = true → ((toPys ds).any fun z => PyData.eqv z (toPy a)) = ds.any fun z => deq z a
  | [], a, _, _ => by simp [toPys]
  | d :: ds, a, h, ha => by
    rw [nors_cons, Bool.and_eq_true] at h
    simp only [toPys, List.any_cons]
    rw [toPy_eqv d a h.1 ha, any_py h.2 ha]
theorem any_flat {K : PySem.W.Frag} {ι : List Addr} {H : Hp} {x : D} {vx : V} (fx : x.flat = true) (qx : VR K ι H x vx) : ∀ {ds : List D} {vs : List V}, ds.all D.flat = true → VRs K ι H ds vs → inV vx vs = (ds.any fun z => deq z x) ∧ vs.all flatV = true
  | [], vs, _, q => by rw [VRs.nil_iff.mp q]; exact ⟨rfl, rfl⟩
  | d :: ds, vs, f, q => by
    obtain ⟨v, r, rfl, q1, q2⟩ := VRs.cons_iff.mp q
    rw [List.all_cons, Bool.and_eq_true] at f
    obtain ⟨e1, e2⟩ := any_flat fx qx f.2 q2
    refine ⟨?_, ?_⟩
    · show (eqV v vx || inV vx r) = (deq d x || ds.any fun z => deq z x)
      rw [VR.flat_eq f.1 fx q1 qx, e1]
    · show (flatV v && r.all flatV) = true
      rw [VR.flat f.1 q1, e2]; rfl
theorem in_core {H0 : Hp} {sp ι : List Addr} {h : Hs} {H : Hp} {x y : D} {vx vy : V} {b : Bool} (R : Rel g.K H0 sp ι h H) (qx : VR g.K ι H x vx) (qy : VR g.K ι H y vy) (e : inB x y h = some b) :
    (∃ (c : Nat) (z : Str), vx = .str ⟨#[c]⟩ ∧ vy = .str z ∧ b = decide (c ∈ z.cps.toList)) ∨ (∃ d ds, Dp g.K H vx d ∧ Dp g.K H vy (.list ds) ∧ SeqAt.shaped d = true ∧ SeqAt.shaped (.list ds) = true ∧ b = ds.any fun z => PyData.eqv z d) ∨
      ∃ p xs, vy = .ref p ∧ (SqL g.K H p xs ∨ SqT g.K H p xs) ∧ flatV vx = true ∧ xs.all flatV = true ∧ b = inV vx xs := by
  have deep : ∀ (z : D), z = y → (match dref h 6 x, dref h 6 z with
      | some a, some (.lst ds) => if dpt a ≤ 60 ∧ dpts ds ≤ 59 then some (ds.any fun z => deq z a) else none
      | _, _ => none) = some b → ∃ d ds, Dp g.K H vx d ∧ Dp g.K H vy (.list ds) ∧ SeqAt.shaped d = true ∧ SeqAt.shaped (.list ds) = true ∧ b = ds.any fun z => PyData.eqv z d := by
    rintro z rfl e
    cases h1 : dref h 6 x with
    | none => rw [h1] at e; cases e
    | some a =>
      cases h2 : dref h 6 z with
      | none => rw [h1, h2] at e; cases e
      | some c =>
        rw [h1, h2] at e
        cases c with
        | lst ds =>
          simp only at e
          by_cases hc : dpt a ≤ 60 ∧ dpts ds ≤ 59
          · rw [if_pos hc] at e
            cases e
            have n1 := dref_is_nor 6 x a h1
            have n2 := dref_is_nor 6 z _ h2
            obtain ⟨p1, c1⟩ := VR.dp a vx n1 (dref_nil R qx h1)
            obtain ⟨p2, c2⟩ := VR.dp _ vy n2 (dref_nil R qy h2)
            have e2 : toPy (.lst ds) = .list (toPys ds) := by simp [toPy]
            have s2 := shaped_of c2 (show dpt (.lst ds) ≤ 60 by unfold dpt; omega)
            rw [e2] at p2 s2
            exact ⟨_, _, p1, p2, shaped_of c1 hc.1, s2, (any_py (by simpa using n2) n1).symm⟩
          · rw [if_neg hc] at e; cases e
        | _ => cases e
  unfold inB at e
  split at e
  · split at e
    · cases e
      obtain ⟨rfl, _⟩ := qx.strE
      obtain ⟨rfl, _⟩ := qy.strE
      exact .inl ⟨_, _, rfl, rfl, by simp [mk]⟩
    · cases e
  · rename_i ds
    by_cases hc : x.flat = true ∧ ds.all D.flat = true
    · rw [if_pos hc] at e
      cases e
      obtain ⟨a, vs, rfl, p, r⟩ := qy.tupE
      obtain ⟨e1, e2⟩ := any_flat hc.1 qx hc.2 r
      exact .inr (.inr ⟨a, vs, rfl, .inr p, VR.flat hc.1 qx, e2, e1.symm⟩)
    · rw [if_neg hc] at e; cases e
  · exact .inr (.inl (deep _ rfl e))
theorem sim_in : SimR2 g (uIn g.K) inD := by
  intro H0 sp ι h H x y vx vy W Q R qx qy w
  unfold inD at w
  cases e : inB x y h with
  | none => rw [e] at w; exact w.elim
  | some b =>
    rw [e] at w
    have q := w.here R _ rfl
    rcases in_core R qx qy e with ⟨c, z, e1, e2, rfl⟩ | ⟨d, ds, p1, p2, s1, s2, rfl⟩ | ⟨p, xs, e1, p1, f1, f2, rfl⟩
    · exact .inl ⟨c, z, e1, e2, q⟩
    · exact .inr (.inl ⟨d, ds, p1, p2, s1, s2, q⟩)
    · exact .inr (.inr ⟨p, xs, e1, p1, f1, f2, q⟩)
theorem sim_notIn : SimR2 g (uNotIn g.K) notInD := by
  intro H0 sp ι h H x y vx vy W Q R qx qy w
  unfold notInD at w
  cases e : inB x y h with
  | none => rw [e] at w; exact w.elim
  | some b =>
    rw [e] at w
    have q := w.here R _ rfl
    rcases in_core R qx qy e with ⟨c, z, e1, e2, rfl⟩ | ⟨d, ds, p1, p2, s1, s2, rfl⟩ | ⟨p, xs, e1, p1, f1, f2, rfl⟩
    · exact .inl ⟨c, z, e1, e2, q⟩
    · exact .inr (.inl ⟨d, ds, p1, p2, s1, s2, q⟩)
    · exact .inr (.inr ⟨p, xs, e1, p1, f1, f2, q⟩)

/-! ### is None -/
def D.isNon : D → Bool
  | .non => true
  | _ => false
def isND : D → D → Hs → R D
  | x, .non, h => .ok (.bl x.isNon) h
  | _, _, _ => .no
def notND : D → D → Hs → R D
  | x, .non, h => .ok (.bl (!x.isNon)) h
  | _, _, _ => .no
theorem VR.is_non {K : PySem.W.Frag} {ι : List Addr} {H : Hp} {d : D} {v : V} (q : VR K ι H d v) : decide (v = .non) = d.isNon := by
  cases d with
  | non => have e : v = .non := q; subst e; rfl
  | bl b => have e : v = .bl b := q; subst e; rfl
  | int i => have e : v = .int i := q; subst e; rfl
  | str s => obtain ⟨rfl, _⟩ := q.strE; rfl
  | tup ds => obtain ⟨a, vs, rfl, _⟩ := q.tupE; rfl
  | lst ds => unfold VR at q; obtain ⟨a, vs, rfl, _⟩ := q; rfl
  | ref n => unfold VR at q; obtain ⟨a, rfl, _⟩ := q; rfl
  | scr n => unfold VR at q; obtain ⟨a, rfl, _⟩ := q; rfl
theorem sim_isN : SimR2 g (fun x y H Q => y = .non ∧ Q (.bl (decide (x = .non))) H) isND := by
  intro H0 sp ι h H x y vx vy W Q R qx qy w
  unfold isND at w
  split at w
  · refine ⟨qy, ?_⟩
    rw [qx.is_non]
    exact w.here R _ rfl
  · exact w.elim
theorem sim_notN : SimR2 g (fun x y H Q => y = .non ∧ Q (.bl (!decide (x = .non))) H) notND := by
  intro H0 sp ι h H x y vx vy W Q R qx qy w
  unfold notND at w
  split at w
  · refine ⟨qy, ?_⟩
    rw [qx.is_non]
    exact w.here R _ rfl
  · exact w.elim

/-! ### places -/
def ixD : D → D → Hs → R D
  | .str s, .int i, h => match atI s i with
    | some c => .ok (.str [c]) h
    | none => .no
  | .tup ds, .int i, h => match atI ds i with
    | some d => .ok d h
    | none => .no
  | x, .int i, h => match lof h x with
    | some ds => match atI ds i with
      | some d => .ok d h
      | none => .no
    | none => .no
  | _, _, _ => .no
theorem atI_VRs {K : PySem.W.Frag} {ι : List Addr} {H : Hp} {ds : List D} {vs : List V} {i : Int} {d : D} (q : VRs K ι H ds vs) (e : atI ds i = some d) : ∃ v, atI vs i = some v ∧ VR K ι H d v := by
  unfold atI at e ⊢
  rw [← q.length]
  cases h : ixN ds.length i with
  | none => rw [h] at e; cases e
  | some j =>
    rw [h] at e
    obtain ⟨v, h1, h2⟩ := q.get (show ds[j]? = some d from e)
    exact ⟨v, h1, h2⟩
theorem atI_mem {α : Type} {xs : List α} {i : Int} {c : α} (e : atI xs i = some c) : c ∈ xs := by
  unfold atI at e
  cases h : ixN xs.length i with
  | none => rw [h] at e; cases e
  | some j => rw [h] at e; exact List.mem_of_getElem? (show xs[j]? = some c from e)
theorem sim_ix : SimR2 g (rIx g.K) ixD := by
  intro H0 sp ι h H x y vx vy W Q R qx qy w
  unfold ixD at w
  split at w
  · split at w
    · rename_i s i c e
      obtain ⟨rfl, l1, c1⟩ := qx.strE
      refine .inr (.inr ⟨_, _, c, rfl, qy, by rw [mk_len]; exact szl l1, by simpa [mk] using e, ?_⟩)
      exact w.here R _ (.strI (s := [c]) (by simp) (fun c' hc => by
        have : c' = c := by simpa using hc
        rw [this]; exact c1 c (atI_mem e)))
    · exact w.elim
  · split at w
    · rename_i ds i d e
      obtain ⟨a, vs, rfl, p, r⟩ := qx.tupE
      obtain ⟨v, e2, qv⟩ := atI_VRs r e
      exact .inr (.inl ⟨a, vs, _, v, rfl, qy, p, e2, w.here R v qv⟩)
    · exact w.elim
  · split at w
    · rename_i ds e1
      split at w
      · rename_i d e
        obtain ⟨a, vs, rfl, p, r⟩ := lof_ok R qx e1
        obtain ⟨v, e2, qv⟩ := atI_VRs r e
        exact .inl ⟨a, vs, _, v, rfl, qy, SqL.of p, e2, w.here R v qv⟩
      · exact w.elim
    · exact w.elim
  · exact w.elim

/-! ### slices -/
def cutL {α : Type} (xs : List α) (lo hi : Option Int) : List α := (xs.drop (HT.sIx xs.length 0 lo)).take (HT.sIx xs.length xs.length hi - HT.sIx xs.length 0 lo)
def slD : D → Option Int → Option Int → Hs → R D
  | .str s, lo, hi, h => .ok (.str (cutL s lo hi)) h
  | .tup ds, lo, hi, h => .ok (.tup (cutL ds lo hi)) h
  | .scr ns, lo, hi, h => .ok (.ref h.length) (h ++ [.lst ((cutL ns lo hi).map D.int)])
  | x, lo, hi, h => match lof h x with
    | some ds => .ok (.ref h.length) (h ++ [.lst (cutL ds lo hi)])
    | none => .no
def uSl (K : PySem.W.Frag) : V → Option Int → Option Int → Hp → VK → Prop := fun x lo hi H Q => rSlS x lo hi H Q ∨ rSlA K x lo hi H Q ∨ rSlL K x lo hi H Q
theorem sl_u : SlR X (uSl X.K) := sl_str.or (sl_tupA.or sl_list)
theorem cutL_VRs {K : PySem.W.Frag} {ι : List Addr} {H : Hp} {ds : List D} {vs : List V} (q : VRs K ι H ds vs) (lo hi : Option Int) : VRs K ι H (cutL ds lo hi) (cutV vs lo hi) := by
  unfold cutL cutV
  rw [← q.length]
  exact (q.drop _).take _
theorem cutL_len {α : Type} (xs : List α) (lo hi : Option Int) : (cutL xs lo hi).length ≤ xs.length := by
  unfold cutL
  rw [List.length_take, List.length_drop]
  omega
theorem cutL_mem {α : Type} {xs : List α} {lo hi : Option Int} {c : α} (h : c ∈ cutL xs lo hi) : c ∈ xs := List.mem_of_mem_drop (List.mem_of_mem_take h)
theorem sim_slice : SimSl g (uSl g.K) slD := by
  intro H0 sp ι h H x lo hi vx W Q R qx w
  unfold slD at w
  split at w
  · obtain ⟨rfl, l1, c1⟩ := qx.strE
    refine .inl ⟨_, rfl, by rw [mk_len]; exact szl l1, ?_⟩
    have e : cutS (mk ‹List Nat›) lo hi = mk (cutL ‹List Nat› lo hi) := by
      unfold cutS cutL
      rw [mk_len]
    rw [e]
    exact w.here R _ (.strI (Nat.le_trans (cutL_len _ _ _) l1) fun c hc => c1 c (cutL_mem hc))
  · rename_i ds
    obtain ⟨a, vs, rfl, p, r⟩ := qx.tupE
    refine .inr (.inl ⟨a, vs, rfl, p, fun hw => ?_, fun _ n hn => ?_⟩)
    · refine w.here R _ (.tupI p ?_)
      have e : cutL ds lo hi = ds := by
        unfold cutL
        rw [r.length, hw.1, hw.2, List.drop_zero]
        exact List.take_of_length_le (by rw [r.length]; omega)
      rw [e]; exact r
    · obtain ⟨x1, x2⟩ := newT R (cutL_VRs r lo hi) hn
      exact w.at x1 _ x2
  · rename_i ns
    unfold VR at qx
    obtain ⟨a, rfl, q⟩ := qx
    have q' : SqL g.K H a (ns.map V.int) := by
      rcases q with ⟨q, _⟩ | q | q
      · exact .inl q
      · rcases q with q | ⟨o, q⟩ <;> cases q
      · exact .inr q
    refine .inr (.inr ⟨a, _, rfl, q', fun n hn => ?_⟩)
    have e : cutV (ns.map V.int) lo hi = (cutL ns lo hi).map V.int := by
      unfold cutV cutL
      rw [List.length_map, List.map_take, List.map_drop]
    obtain ⟨x1, x2⟩ := newL (vs := cutV (ns.map V.int) lo hi) R (by rw [e]; exact VRs.of_ints _) hn
    exact w.at x1 _ x2
  · split at w
    · rename_i ds e1
      obtain ⟨a, vs, rfl, p, r⟩ := lof_ok R qx e1
      refine .inr (.inr ⟨a, vs, rfl, SqL.of p, fun n hn => ?_⟩)
      obtain ⟨x1, x2⟩ := newL R (cutL_VRs r lo hi) hn
      exact w.at x1 _ x2
    · exact w.elim
end
end PF
namespace PF
open PySem PySem.Spec PyProof.Rows L2
section
variable {X : Cx} {g : G}

/-! ### len, abs, int, min, max of two -/
def rLenU (K : PySem.W.Frag) : List V → Hp → VK → Prop := fun xs H Q => (∃ p ys, xs = [.ref p] ∧ (SqL K H p ys ∨ SqT K H p ys) ∧ Q (.int ys.length) H) ∨ ∃ z, xs = [.str z] ∧ z.length ≤ sizeLine ∧ Q (.int z.length) H
theorem call_lenU : CallR X (.builtin "len") (rLenU X.K) := call_len_seq.or call_len_str
def lenD : List D → Hs → R D
  | [.str s], h => .ok (.int s.length) h
  | [.tup ds], h => .ok (.int ds.length) h
  | [x], h => match lof h x with
    | some ds => .ok (.int ds.length) h
    | none => .no
  | _, _ => .no
theorem VRs.oneE {K : PySem.W.Frag} {ι : List Addr} {H : Hp} {d : D} {vs : List V} (q : VRs K ι H [d] vs) : ∃ v, vs = [v] ∧ VR K ι H d v := by
  obtain ⟨v, r, rfl, q1, q2⟩ := VRs.cons_iff.mp q
  rw [VRs.nil_iff.mp q2]
  exact ⟨v, rfl, q1⟩
theorem VRs.twoE {K : PySem.W.Frag} {ι : List Addr} {H : Hp} {d e : D} {vs : List V} (q : VRs K ι H [d, e] vs) : ∃ v w, vs = [v, w] ∧ VR K ι H d v ∧ VR K ι H e w := by
  obtain ⟨v, r, rfl, q1, q2⟩ := VRs.cons_iff.mp q
  obtain ⟨w, rfl, q3⟩ := q2.oneE
  exact ⟨v, w, rfl, q1, q3⟩
theorem sim_len : SimC g (rLenU g.K) lenD := by
  intro H0 sp ι h H xs vs W Q R q w
  unfold lenD at w
  split at w
  · obtain ⟨v, rfl, q1⟩ := q.oneE
    obtain ⟨rfl, l1, _⟩ := q1.strE
    exact .inr ⟨_, rfl, by rw [mk_len]; exact szl l1, by rw [mk_len]; exact w.here R _ rfl⟩
  · obtain ⟨v, rfl, q1⟩ := q.oneE
    obtain ⟨a, vs, rfl, p, r⟩ := q1.tupE
    exact .inl ⟨a, vs, rfl, .inr p, by rw [← r.length]; exact w.here R _ rfl⟩
  · split at w
    · rename_i ds e1
      obtain ⟨v, rfl, q1⟩ := q.oneE
      obtain ⟨a, vs, rfl, p, r⟩ := lof_ok R q1 e1
      exact .inl ⟨a, vs, rfl, .inl (SqL.of p), by rw [← r.length]; exact w.here R _ rfl⟩
    · exact w.elim
  · exact w.elim
def absD : List D → Hs → R D
  | [.int i], h => .ok (.int (if i < 0 then -i else i)) h
  | _, _ => .no
theorem sim_abs : SimC g (fun xs H Q => ∃ i, xs = [.int i] ∧ Q (.int (if i < 0 then -i else i)) H) absD := by
  intro H0 sp ι h H xs vs W Q R q w
  unfold absD at w
  split at w
  · obtain ⟨v, rfl, q1⟩ := q.oneE
    have e : v = .int _ := q1
    subst e
    exact ⟨_, rfl, w.here R _ rfl⟩
  · exact w.elim
def intD : List D → Hs → R D
  | [.int i], h => .ok (.int i) h
  | [.bl b], h => .ok (.int (if b then 1 else 0)) h
  | _, _ => .no
theorem sim_int1 : SimC g (fun xs H Q => (∃ i, xs = [.int i] ∧ Q (.int i) H) ∨ ∃ k, xs = [.bl k] ∧ Q (.int (if k then 1 else 0)) H) intD := by
  intro H0 sp ι h H xs vs W Q R q w
  unfold intD at w
  split at w
  · obtain ⟨v, rfl, q1⟩ := q.oneE
    have e : v = .int _ := q1
    subst e
    exact .inl ⟨_, rfl, w.here R _ rfl⟩
  · obtain ⟨v, rfl, q1⟩ := q.oneE
    have e : v = .bl _ := q1
    subst e
    exact .inr ⟨_, rfl, w.here R _ rfl⟩
  · exact w.elim
def max2D : List D → Hs → R D
  | [.int i, .int j], h => .ok (.int (if j > i then j else i)) h
  | _, _ => .no
theorem sim_max2 : SimC g (fun xs H Q => ∃ i j, xs = [.int i, .int j] ∧ Q (.int (if j > i then j else i)) H) max2D := by
  intro H0 sp ι h H xs vs W Q R q w
  unfold max2D at w
  split at w
  · obtain ⟨v, v', rfl, q1, q2⟩ := q.twoE
    have e : v = .int _ := q1
    have e' : v' = .int _ := q2
    subst e e'
    exact ⟨_, _, rfl, w.here R _ rfl⟩
  · exact w.elim
def min2D : List D → Hs → R D
  | [.int i, .int j], h => .ok (.int (if j < i then j else i)) h
  | _, _ => .no
theorem sim_min2 : SimC g (fun xs H Q => ∃ i j, xs = [.int i, .int j] ∧ Q (.int (if j < i then j else i)) H) min2D := by
  intro H0 sp ι h H xs vs W Q R q w
  unfold min2D at w
  split at w
  · obtain ⟨v, v', rfl, q1, q2⟩ := q.twoE
    have e : v = .int _ := q1
    have e' : v' = .int _ := q2
    subst e e'
    exact ⟨_, _, rfl, w.here R _ rfl⟩
  · exact w.elim

/-! ### list(x), tuple(x) of lists and tuples -/
def listD : List D → Hs → R D
  | [.tup ds], h => .ok (.ref h.length) (h ++ [.lst ds])
  | [x], h => match lof h x with
    | some ds => .ok (.ref h.length) (h ++ [.lst ds])
    | none => .no
  | _, _ => .no
def tupleD : List D → Hs → R D
  | [.tup ds], h => .ok (.tup ds) h
  | [x], h => match lof h x with
    | some ds => .ok (.tup ds) h
    | none => .no
  | _, _ => .no
theorem sim_list : SimC g (fun xs H Q => ∃ p ys, xs = [.ref p] ∧ (SqL g.K H p ys ∨ SqT g.K H p ys) ∧ ∀ l, H l = none → Q (.ref l) (upd H l (.lst ys))) listD := by
  intro H0 sp ι h H xs vs W Q R q w
  unfold listD at w
  split at w
  · obtain ⟨v, rfl, q1⟩ := q.oneE
    obtain ⟨a, vs, rfl, p, r⟩ := q1.tupE
    refine ⟨a, vs, rfl, .inr p, fun n hn => ?_⟩
    obtain ⟨x1, x2⟩ := newL R r hn
    exact w.at x1 _ x2
  · split at w
    · rename_i ds e1
      obtain ⟨v, rfl, q1⟩ := q.oneE
      obtain ⟨a, vs, rfl, p, r⟩ := lof_ok R q1 e1
      refine ⟨a, vs, rfl, .inl (SqL.of p), fun n hn => ?_⟩
      obtain ⟨x1, x2⟩ := newL R r hn
      exact w.at x1 _ x2
    · exact w.elim
  · exact w.elim
theorem sim_tuple : SimC g (fun xs H Q => ∃ p ys, xs = [.ref p] ∧ ((SqL g.K H p ys ∧ ∀ l, H l = none → Q (.ref l) (upd H l (.tup ys))) ∨ (SqT g.K H p ys ∧ Q (.ref p) H))) tupleD := by
  intro H0 sp ι h H xs vs W Q R q w
  unfold tupleD at w
  split at w
  · obtain ⟨v, rfl, q1⟩ := q.oneE
    obtain ⟨a, vs, rfl, p, r⟩ := q1.tupE
    exact ⟨a, vs, rfl, .inr ⟨p, w.here R _ (.tupI p r)⟩⟩
  · split at w
    · rename_i ds e1
      obtain ⟨v, rfl, q1⟩ := q.oneE
      obtain ⟨a, vs, rfl, p, r⟩ := lof_ok R q1 e1
      refine ⟨a, vs, rfl, .inl ⟨SqL.of p, fun n hn => ?_⟩⟩
      obtain ⟨x1, x2⟩ := newT R r hn
      exact w.at x1 _ x2
    · exact w.elim
  · exact w.elim

/-! ### isinstance -/
def tyN (h : Hs) : D → Option String
  | .non => some "NoneType"
  | .bl _ => some "bool"
  | .int _ => some "int"
  | .str _ => some "str"
  | .tup _ => some "tuple"
  | .lst _ => some "list"
  | .ref n => match h[n]? with
    | some (.lst _) => some "list"
    | _ => none
  | .scr _ => none
theorem tyN_ok {H0 : Hp} {sp ι : List Addr} {h : Hs} {H : Hp} {x : D} {v : V} {t : String} (R : Rel g.K H0 sp ι h H) (q : VR g.K ι H x v) (e : tyN h x = some t) : TyX g.K H v (.type t) := by
  cases x with
  | non => cases e; have e : v = .non := q; subst e; exact .base .non
  | bl b => cases e; have e : v = .bl b := q; subst e; exact .base (.bl b)
  | int b => cases e; have e : v = .int b := q; subst e; exact .base (.int b)
  | str b => cases e; obtain ⟨rfl, _⟩ := q.strE; exact .base (.str _)
  | tup ds =>
    cases e
    obtain ⟨a, vs, rfl, p, _⟩ := q.tupE
    rcases p with (p | ⟨o, p⟩) | ⟨o, its, n, p, c, _⟩
    · exact .base (.tup p)
    · exact .fTuple p
    · exact .kTuple p c
  | lst ds =>
    cases e
    unfold VR at q
    obtain ⟨a, vs, rfl, p, _⟩ := q
    exact .base (.lst p)
  | ref n =>
    unfold tyN at e
    cases hn : h[n]? with
    | none => simp only [hn] at e; cases e
    | some o =>
      simp only [hn] at e
      cases o with
      | lst ds =>
        cases e
        unfold VR at q
        obtain ⟨a, rfl, e2⟩ := q
        obtain ⟨b, e3, vs, e4, _⟩ := R.ob n _ hn
        rw [e2] at e3; cases e3
        exact .base (.lst e4)
      | dct b => cases e
  | scr _ => cases e
def subT (a b : String) : Bool := a == b || (a == "bool" && b == "int")
def kNames : List String := ["NoneType", "bool", "int", "str", "tuple", "list"]
theorem kit_sub : ∀ a ∈ kNames, ∀ b ∈ ["bool", "int", "str", "tuple", "list", "dict"], kitB a b = some (subT a b) := by decide +kernel
theorem tyN_mem {h : Hs} {x : D} {t : String} (e : tyN h x = some t) : t ∈ kNames := by
  cases x with
  | ref n =>
    unfold tyN at e
    cases hn : h[n]? with
    | none => simp only [hn] at e; cases e
    | some o => simp only [hn] at e; cases o <;> cases e; decide
  | scr _ => cases e
  | _ => cases e; decide
def fIsi (fe : FE) (ts : List String) : FE := fun env h => (fe env h).bnd fun x h1 => match tyN h1 x with
  | some t => .ok (.bl (ts.any fun b => subT t b)) h1
  | none => .no
variable {W : Wx} {te : TE} {fe : FE}
theorem sim_isi1 {b : String} (hb : b ∈ ["bool", "int", "str", "tuple", "list", "dict"]) (he : SimE g W te fe) : SimE g W (tCB (rIsi g.K) (tCons te (tCons (tC (.ty b)) tNil))) (fIsi fe [b]) := by
  intro H0 sp ι h H env σ Q R E w
  refine he H0 sp ι h H env σ _ R E (WP.bnd w fun x h1 ι1 H1 R1 S1 w1 v1 q1 => ?_)
  cases e : tyN h1 x with
  | none => rw [e] at w1; exact w1.elim
  | some t =>
    rw [e] at w1
    refine ⟨v1, .ty b, .type t, .type b, subT t b, rfl, .ty b, tyN_ok R1 q1 e, kit_ty (kit_sub t (tyN_mem e) b hb), ?_⟩
    have := w1.here R1 _ rfl
    simpa using this
theorem sim_isi2 {a b : String} (ha : a ∈ ["bool", "int", "str", "tuple", "list", "dict"]) (hb : b ∈ ["bool", "int", "str", "tuple", "list", "dict"]) (he : SimE g W te fe) :
    SimE g W (tCB (rIsiT g.K) (tCons te (tCons (tTup (tCons (tC (.ty a)) (tCons (tC (.ty b)) tNil))) tNil))) (fIsi fe [a, b]) := by
  intro H0 sp ι h H env σ Q R E w
  refine he H0 sp ι h H env σ _ R E (WP.bnd w fun x h1 ι1 H1 R1 S1 w1 v1 q1 => ?_)
  refine ⟨by show 2 ≤ sizeLine; decide, fun p hp => ?_⟩
  cases e : tyN h1 x with
  | none => rw [e] at w1; exact w1.elim
  | some t =>
    rw [e] at w1
    have T := R1.tmp (o := .tup [.ty a, .ty b]) hp
    refine ⟨v1, p, [.ty a, .ty b], .type t, [.type a, .type b], subT t a || subT t b, rfl, upd_same, .cons (.ty a) (.cons (.ty b) .nil), tyN_ok T.1 (VR.mono T.2 _ _ q1) e, ?_, ?_⟩
    · have k1 := kit_ty (K := g.K) (kit_sub t (tyN_mem e) a ha)
      have k2 := kit_ty (K := g.K) (kit_sub t (tyN_mem e) b hb)
      refine kitAny_cons k1 (fun _ => kitAny_cons (r := subT t a || subT t b) k2 (fun z => ?_) (fun z => by rw [z]; simp)) (fun z => by rw [z]; simp)
      rename_i z1
      rw [z1, z]; exact kitAny_nil
    · have := w1.at T _ rfl
      simpa using this

/-! ### list(zip(x, y)) -/
def tLZ (K : PySem.W.Frag) (ta : TA) : TE := fun σ H Q => ta σ H fun vs H1 => ∃ a b xs ys, vs = [.ref a, .ref b] ∧ ((SqL K H1 a xs ∧ SqL K H1 b ys) ∨ (SqT K H1 a xs ∧ SqT K H1 b ys)) ∧
  ∀ (q : Addr) (ps : List Addr) (H2 : Hp), (∀ c o, H1 c = some o → H2 c = some o) → H1 q = none → H2 q = some (.lst (ps.map V.ref)) → ps.length = min xs.length ys.length →
    (∀ (i : Nat) (p : Addr), ps[i]? = some p → H2 p = some (.tup [xs.getD i .non, ys.getD i .non])) → Q (.ref q) H2
theorem getD_rel {xs : List V} {us : List Value} (r : Vals xs us) (i : Nat) : L2.RelV (xs.getD i .non) (us.toArray.getD i .none) := by
  by_cases h : i < xs.length
  · obtain ⟨u, h1, h2⟩ := r.get (i := i) (x := xs[i]) (by simp [h])
    have hu : i < us.length := (List.getElem?_eq_some_iff.mp h1).1
    have e1 : xs.getD i .non = xs[i] := by simp [List.getD, h]
    have e2 : us.toArray.getD i .none = u := by
      have := (List.getElem?_eq_some_iff.mp h1).2
      simp [Array.getD, hu, this]
    rw [e1, e2]; exact h2
  · have hl := r.length
    have e1 : xs.getD i .non = .non := by simp [List.getD, h]
    have e2 : us.toArray.getD i .none = .none := by
      have : ¬ i < us.length := by omega
      simp [Array.getD, this]
    rw [e1, e2]; rfl
theorem pe_listZip {e1 e2 : Expr} {ta : TA} {p p2 pos pos2 : Pos} (hg : Gl X "list") (hm : X.mg "list" = none) (hg2 : Gl X "zip") (hm2 : X.mg "zip" = none) (ha : PA X [e1, e2] ta) (hc : X.calm = true)
    (hs : starEach [e1, e2] X.env = (false, eval e1 X.env) :: starEach [e2] X.env := by rfl) (hpl : (backTo pos2 (starEach [e2] X.env)).any (·.1) = false := by rfl)
    (hs1 : starEach [.Call (.Name "zip" p2) [e1, e2] [] pos2] X.env = (false, eval (.Call (.Name "zip" p2) [e1, e2] [] pos2) X.env) :: starEach [] X.env := by rfl)
    (hpl1 : (backTo pos (starEach [] X.env)).any (·.1) = false := by rfl) :
    PE X (.Call (.Name "list" p) [.Call (.Name "zip" p2) [e1, e2] [] pos2] [] pos) (tLZ X.K ta) := by
  refine ⟨fun pins s σ H Q I h => ?_⟩
  refine wpAny_Call_Name_kw (ld_blt I hg hm PyProof.Rows.boot_list ?_)
  refine PyProof.Rows.callWith_type1 ?_ hs1 hpl1
  rw [hs1]
  show wpAny _ _ (spliced ((false, eval (.Call (.Name "zip" p2) [e1, e2] [] pos2) X.env) :: backTo pos (starEach [] X.env))) _ _ s
  refine Calls.spliced_cons ?_
  refine wpAny_Call_Name_kw (ld_blt I hg2 hm2 PyProof.Rows.boot_zip ?_)
  refine PyProof.Rows.callWith_type1 (thn (ha.run pos2 pins s σ H _ I h) fun us s1 ⟨vs, H1, I1, r1, q1⟩ => ?_) hs hpl
  obtain ⟨a, b, xs, ys, rfl, hq, fin⟩ := q1
  obtain ⟨u1, u2, rfl, ru1, ru2⟩ := Vals.two r1
  cases (show u1 = Value.ref a from ru1)
  cases (show u2 = Value.ref b from ru2)
  have hh := I.ok.hd hc
  -- the five objects of the zip
  have fresh5 : ∀ c, c ∈ [s1.heap.objs.size + 4, s1.heap.objs.size + 2, s1.heap.objs.size + 3, s1.heap.objs.size, s1.heap.objs.size + 1] → s1.heap.objs.size ≤ c := fun c hcm => by
    have e' : c = s1.heap.objs.size + 4 ∨ c = s1.heap.objs.size + 2 ∨ c = s1.heap.objs.size + 3 ∨ c = s1.heap.objs.size ∨ c = s1.heap.objs.size + 1 := by simpa using hcm
    rcases e' with z | z | z | z | z
    · rw [z]; exact Nat.le_add_right _ _
    · rw [z]; exact Nat.le_add_right _ _
    · rw [z]; exact Nat.le_add_right _ _
    · rw [z]; exact Nat.le_refl _
    · rw [z]; exact Nat.le_add_right _ _
  have notin : ∀ q l1 l2 : Addr, l1 < s1.heap.objs.size → l2 < s1.heap.objs.size → s1.heap.objs.size + 5 ≤ q → q ∉ [s1.heap.objs.size + 4, s1.heap.objs.size + 2, s1.heap.objs.size + 3, s1.heap.objs.size, s1.heap.objs.size + 1, l1, l2] := fun q l1 l2 h1 h2 hq hm => by
    have e' : q = s1.heap.objs.size + 4 ∨ q = s1.heap.objs.size + 2 ∨ q = s1.heap.objs.size + 3 ∨ q = s1.heap.objs.size ∨ q = s1.heap.objs.size + 1 ∨ q = l1 ∨ q = l2 := by simpa using hm
    have key : ∀ m : Nat, m < s1.heap.objs.size + 5 → q = m → False := fun m hm e => by
      have hq' : s1.heap.objs.size + 5 ≤ m := e ▸ hq
      omega
    rcases e' with z | z | z | z | z | z | z
    · exact key _ (by omega) z
    · exact key _ (by omega) z
    · exact key _ (by omega) z
    · exact key _ (by omega) z
    · exact key _ (by omega) z
    · exact key _ (Nat.lt_of_lt_of_le h1 (Nat.le_add_right _ _)) z
    · exact key _ (Nat.lt_of_lt_of_le h2 (Nat.le_add_right _ _)) z
  rcases hq with ⟨hqx, hqy⟩ | ⟨hqx, hqy⟩
  · obtain ⟨its, rv, p1, l1⟩ := I1.list hqx
    obtain ⟨its2, rv2, p2', l2⟩ := I1.list hqy
    refine call_zip_2 p1.isList p2'.isList fun h' hz hTI hTO h1 h2 hsz hk => Calls.spliced_nil ?_
    have I2 : Inv X pins σ H1 { s1 with heap := h' } := I1.kept (t' := s1.toks) hk
    have len : min xs.length ys.length = min its.toArray.size its2.toArray.size := by rw [List.size_toArray, List.size_toArray, rv.length, rv2.length]
    have up : ∀ (l : Addr) (zs : Array Value), s1.heap.IsList l zs → h'.IsList l zs := fun l zs ⟨o, e, r⟩ => ⟨o, hk _ _ e, r⟩
    refine ZL.list_zip (n := min xs.length ys.length) (vs := fun i => (xs.getD i .non, ys.getD i .non)) (us := fun i => (its.toArray.getD i .none, its2.toArray.getD i .none)) (Z := fun q => ZL.LZ its.toArray its2.toArray (s1.heap.objs.size + 4) (s1.heap.objs.size + 2) (s1.heap.objs.size + 3) s1.heap.objs.size (s1.heap.objs.size + 1) a b q) hh I2
      (fun q hq => by rw [len]; exact ZL.zw_list (PySem.W.ktu_apart s1.heap.objs.size a b p1.lt p2'.lt) (notin q a b p1.lt p2'.lt (by have : h'.objs.size ≤ q := hq; omega))) (fun q _ => ⟨.inl ⟨rfl, hz⟩, hTI, ⟨_, _, hTO⟩, h1, h2, up _ _ p1.isList, up _ _ p2'.isList⟩)
      (fun c hcm => I1.fpOk (fresh5 c hcm) (I1.hok.fresh (fresh5 c hcm))) (by show _ < h'.objs.size; omega) (fun i _ => ⟨getD_rel rv i, getD_rel rv2 i⟩) (by omega) fun q ps H2 s' I3 k1 k2 k3 k4 k5 => ?_
    exact ⟨.ref q, H2, I3, rfl, fin q ps H2 k1 k2 k3 k4 k5⟩
  · obtain ⟨its, rv, p1, l1⟩ := I1.tuple hqx
    obtain ⟨its2, rv2, p2', l2⟩ := I1.tuple hqy
    obtain ⟨o1, ho1, _⟩ := id p1
    obtain ⟨o2, ho2, _⟩ := id p2'
    have t1 : s1.heap.IsTuple a its.toArray := p1
    have t2 : s1.heap.IsTuple b its2.toArray := p2'
    refine RZ.call_zipT t1 t2 fun h' hz hTI hTO h1 h2 hsz hk => Calls.spliced_nil ?_
    have I2 : Inv X pins σ H1 { s1 with heap := h' } := I1.kept (t' := s1.toks) hk
    have len : min xs.length ys.length = min its.toArray.size its2.toArray.size := by rw [List.size_toArray, List.size_toArray, rv.length, rv2.length]
    have up : ∀ (l : Addr) (zs : Array Value), s1.heap.IsTuple l zs → h'.IsTuple l zs := fun l zs ⟨o, e, r⟩ => ⟨o, hk _ _ e, r⟩
    refine ZL.list_zip (n := min xs.length ys.length) (vs := fun i => (xs.getD i .non, ys.getD i .non)) (us := fun i => (its.toArray.getD i .none, its2.toArray.getD i .none)) (Z := fun q => ZL.TZ its.toArray its2.toArray (s1.heap.objs.size + 4) (s1.heap.objs.size + 2) (s1.heap.objs.size + 3) s1.heap.objs.size (s1.heap.objs.size + 1) a b q) hh I2
      (fun q hq => by rw [len]; exact ZL.zw_tup (PySem.W.ktu_apart s1.heap.objs.size a b (Heap.lt_size ho1) (Heap.lt_size ho2)) (notin q a b (Heap.lt_size ho1) (Heap.lt_size ho2) (by have : h'.objs.size ≤ q := hq; omega))) (fun q _ => ⟨.inl ⟨rfl, hz⟩, hTI, ⟨_, _, hTO⟩, h1, h2, up _ _ t1, up _ _ t2⟩)
      (fun c hcm => I1.fpOk (fresh5 c hcm) (I1.hok.fresh (fresh5 c hcm))) (by show _ < h'.objs.size; omega) (fun i _ => ⟨getD_rel rv i, getD_rel rv2 i⟩) (by omega) fun q ps H2 s' I3 k1 k2 k3 k4 k5 => ?_
    exact ⟨.ref q, H2, I3, rfl, fin q ps H2 k1 k2 k3 k4 k5⟩
end
end PF
namespace PF
open PySem PySem.Spec PyProof.Rows L2

/-! ### list(zip(x, y)), continued -/
def zipT (a b : List D) : List D := List.zipWith (fun x y => D.tup [x, y]) a b
def zipD : List D → Hs → R D
  | [.tup a, .tup b], h => .ok (.ref h.length) (h ++ [.lst (zipT a b)])
  | [x, y], h => match lof h x, lof h y with
    | some a, some b => .ok (.ref h.length) (h ++ [.lst (zipT a b)])
    | _, _ => .no
  | _, _ => .no
theorem VRs.of_get {K : PySem.W.Frag} {ι : List Addr} {H : Hp} : ∀ {ds : List D} {vs : List V}, ds.length = vs.length → (∀ (i : Nat) (d : D) (v : V), ds[i]? = some d → vs[i]? = some v → VR K ι H d v) → VRs K ι H ds vs
  | [], vs, hl, _ => List.eq_nil_of_length_eq_zero (by simpa using hl.symm)
  | d :: ds, [], hl, _ => by simp at hl
  | d :: ds, v :: vs, hl, h => .cons (h 0 d v rfl rfl) (VRs.of_get (by simpa using hl) fun i x y h1 h2 => h (i + 1) x y (by simpa using h1) (by simpa using h2))
section
variable {g : G} {W : Wx}
theorem zip_core {K : PySem.W.Frag} {H0 : Hp} {sp ι : List Addr} {h : Hs} {H H2 : Hp} {a b : List D} {xs ys : List V} {q : Addr} {ps : List Addr} (R : Rel K H0 sp ι h H) (ra : VRs K ι H a xs) (rb : VRs K ι H b ys)
    (k1 : ∀ c o, H c = some o → H2 c = some o) (k2 : H q = none) (k3 : H2 q = some (.lst (ps.map V.ref))) (k4 : ps.length = min xs.length ys.length) (k5 : ∀ (i : Nat) (p : Addr), ps[i]? = some p → H2 p = some (.tup [xs.getD i .non, ys.getD i .non])) :
    (Rel K H0 sp (ι ++ [q]) (h ++ [.lst (zipT a b)]) H2 ∧ Stp ι H (ι ++ [q]) H2) ∧ VR K (ι ++ [q]) H2 (.ref h.length) (.ref q) := by
  have x := R.adopt (o := .lst (zipT a b)) k1 k2 fun s => by
    refine ⟨_, k3, VRs.of_get ?_ fun i d v h1 h2 => ?_⟩
    · unfold zipT
      rw [List.length_zipWith, List.length_map, ra.length, rb.length, k4]
    · unfold zipT at h1
      rw [List.getElem?_zipWith] at h1
      cases e1 : a[i]? with
      | none => rw [e1] at h1; cases h1
      | some da =>
        cases e2 : b[i]? with
        | none => rw [e1, e2] at h1; cases h1
        | some db =>
          rw [e1, e2] at h1
          cases h1
          rw [List.getElem?_map] at h2
          cases e3 : ps[i]? with
          | none => rw [e3] at h2; cases h2
          | some p =>
            rw [e3] at h2
            cases h2
            obtain ⟨va, g1, q1⟩ := ra.get e1
            obtain ⟨vb, g2, q2⟩ := rb.get e2
            have t := k5 i p e3
            have n1 : xs.getD i .non = va := by simp [List.getD, g1]
            have n2 : ys.getD i .non = vb := by simp [List.getD, g2]
            rw [n1, n2] at t
            exact .tupI (SqT.of t) (.cons (VR.mono s _ _ q1) (.one (VR.mono s _ _ q2)))
  refine ⟨x, ?_⟩
  unfold VR
  exact ⟨q, rfl, by rw [← R.len]; simp⟩
theorem sim_lz {ta : TA} {fa : FA} (ha : SimA g W ta fa) : SimE g W (tLZ g.K ta) (fCB zipD fa) := by
  intro H0 sp ι h H env σ Q R E w
  refine ha H0 sp ι h H env σ _ R E (WP.bnd w fun x h1 ι1 H1 R1 S1 w1 v1 q1 => ?_)
  unfold zipD at w1
  split at w1
  · obtain ⟨v, v', rfl, p1, p2⟩ := q1.twoE
    obtain ⟨a, xs, rfl, t1, r1⟩ := p1.tupE
    obtain ⟨b, ys, rfl, t2, r2⟩ := p2.tupE
    refine ⟨a, b, xs, ys, rfl, .inr ⟨t1, t2⟩, fun q ps H2 k1 k2 k3 k4 k5 => ?_⟩
    obtain ⟨x1, x2⟩ := zip_core R1 r1 r2 k1 k2 k3 k4 k5
    exact w1.at x1 _ x2
  · split at w1
    · rename_i a' b' e1 e2
      obtain ⟨v, v', rfl, p1, p2⟩ := q1.twoE
      obtain ⟨a, xs, rfl, t1, r1⟩ := lof_ok R1 p1 e1
      obtain ⟨b, ys, rfl, t2, r2⟩ := lof_ok R1 p2 e2
      refine ⟨a, b, xs, ys, rfl, .inl ⟨SqL.of t1, SqL.of t2⟩, fun q ps H2 k1 k2 k3 k4 k5 => ?_⟩
      obtain ⟨x1, x2⟩ := zip_core R1 r1 r2 k1 k2 k3 k4 k5
      exact w1.at x1 _ x2
    · exact w1.elim
  · exact w1.elim

/-! ### methods of lists and texts -/
def tyD (T : String) (h : Hs) (x : D) : Bool := match x with
  | .str _ => T == "str"
  | x => T == "list" && (lof h x).isSome
def SimM (g : G) (r : V → List V → Hp → VK → Prop) (f : D → List D → Hs → R D) : Prop := ∀ (H0 : Hp) (sp ι : List Addr) (h : Hs) (H : Hp) (x : D) (xs : List D) (vx : V) (vs : List V) (W : Wx) (Q : VK), Rel g.K H0 sp ι h H → VR g.K ι H x vx → VRs g.K ι H xs vs →
  WP g H0 sp W ι H (f x xs h) (fun d _ ι' H' => ∀ v, VR g.K ι' H' d v → Q v H') → r vx vs H Q
def fBM (T : String) (f : D → List D → Hs → R D) (fo : FE) (fa : FA) : FE := fun env h => (fo env h).bnd fun x h1 => if tyD T h1 x = true then (fa env h1).bnd fun xs h2 => f x xs h2 else .no
theorem tyD_ok {H0 : Hp} {sp ι : List Addr} {h : Hs} {H : Hp} {x : D} {v : V} {T : String} (R : Rel g.K H0 sp ι h H) (q : VR g.K ι H x v) (e : tyD T h x = true) : tyV g.K T v H := by
  unfold tyD at e
  split at e
  · obtain ⟨rfl, _⟩ := q.strE
    exact (by simpa using e : T = "str")
  · rw [Bool.and_eq_true] at e
    obtain ⟨ds, h2⟩ := Option.isSome_iff_exists.mp e.2
    obtain ⟨a, vs, rfl, p, _⟩ := lof_ok R q h2
    exact .inl ⟨by simpa using e.1, vs, SqL.of p⟩
theorem sim_bm {T : String} {r : V → List V → Hp → VK → Prop} {f : D → List D → Hs → R D} {to : TE} {fo : FE} {ta : TA} {fa : FA} (hr : SimM g r f) (ho : SimE g W to fo) (ha : SimA g W ta fa) : SimE g W (tBM g.K T r to ta) (fBM T f fo fa) := by
  intro H0 sp ι h H env σ Q R E w
  refine ho H0 sp ι h H env σ _ R E (WP.bnd w fun x h1 ι1 H1 R1 S1 w1 v1 q1 => ?_)
  obtain ⟨hc, w1⟩ := ifN w1
  refine ⟨tyD_ok R1 q1 hc, ?_⟩
  refine ha H0 sp ι1 h1 H1 env σ _ R1 (E.mono S1) (WP.bnd w1 fun y h2 ι2 H2 R2 S2 w2 v2 q2 => ?_)
  exact hr H0 sp ι2 h2 H2 x y v1 v2 W Q R2 (VR.mono S2 _ _ q1) q2 w2
theorem sim_bm0 {T : String} {r : V → List V → Hp → VK → Prop} {f : D → List D → Hs → R D} {to : TE} {fo : FE} (hr : SimM g r f) (ho : SimE g W to fo) : SimE g W (tBM0 g.K T r to) (fBM T f fo fNil) := by
  intro H0 sp ι h H env σ Q R E w
  refine ho H0 sp ι h H env σ _ R E (WP.bnd w fun x h1 ι1 H1 R1 S1 w1 v1 q1 => ?_)
  obtain ⟨hc, w1⟩ := ifN w1
  refine ⟨tyD_ok R1 q1 hc, ?_⟩
  exact hr H0 sp ι1 h1 H1 x [] v1 [] W Q R1 q1 rfl w1
/-- the items of a local list that may be changed -/
def own (h : Hs) : D → Option (Nat × List D)
  | .ref n => match h[n]? with
    | some (.lst ds) => some (n, ds)
    | _ => none
  | _ => none
theorem own_ok {K : PySem.W.Frag} {H0 : Hp} {sp ι : List Addr} {h : Hs} {H : Hp} (R : Rel K H0 sp ι h H) {d : D} {v : V} {n : Nat} {ds : List D} (q : VR K ι H d v) (e : own h d = some (n, ds)) : ∃ a vs, v = .ref a ∧ ι[n]? = some a ∧ H a = some (.lst vs) ∧ VRs K ι H ds vs := by
  cases d with
  | ref m =>
    unfold own at e
    cases hn : h[m]? with
    | none => simp only [hn] at e; cases e
    | some o =>
      simp only [hn] at e
      cases o with
      | lst xs =>
        cases e
        unfold VR at q
        obtain ⟨a, e1, e2⟩ := q
        obtain ⟨b, h1, vs, h2, h3⟩ := R.ob _ _ hn
        rw [e2] at h1; cases h1
        exact ⟨a, vs, e1, e2, h2, h3⟩
      | dct b => cases e
  | _ => cases e
theorem putL {K : PySem.W.Frag} {H0 : Hp} {sp ι : List Addr} {h : Hs} {H : Hp} (R : Rel K H0 sp ι h H) {n : Nat} {a : Addr} {ds : List D} {vs : List V} (hn : ι[n]? = some a) (q : VRs K ι H ds vs) :
    Rel K H0 sp ι (h.set n (.lst ds)) (upd H a (.lst vs)) ∧ Stp ι H ι (upd H a (.lst vs)) := R.put hn fun s => ⟨vs, upd_same, VRs.mono s _ _ q⟩
def appendD (x : D) (xs : List D) (h : Hs) : R D := match own h x, xs with
  | some (n, ds), [d] => if ds.length < 16777216 then .ok .non (h.set n (.lst (ds ++ [d]))) else .no
  | _, _ => .no
theorem sim_append : SimM g rAppend appendD := by
  intro H0 sp ι h H x xs vx vs W Q R qx qs w
  unfold appendD at w
  split at w
  · rename_i n ds d e
    obtain ⟨hl, w⟩ := ifN w
    obtain ⟨a, us, rfl, hn, p, r⟩ := own_ok R qx e
    obtain ⟨v, rfl, q1⟩ := qs.oneE
    exact ⟨a, us, v, rfl, rfl, p, by rw [← r.length, sizeLine_eq]; exact hl, w.at (putL R hn (r.app (.one q1))) _ rfl⟩
  · exact w.elim
def extendD (x : D) (xs : List D) (h : Hs) : R D := match own h x, xs with
  | some (n, ds), [y] => match lof h y with
    | some es => if ds.length + es.length ≤ 16777216 then .ok .non (h.set n (.lst (ds ++ es))) else .no
    | none => .no
  | _, _ => .no
theorem sim_extend : SimM g rExtend extendD := by
  intro H0 sp ι h H x xs vx vs W Q R qx qs w
  unfold extendD at w
  split at w
  · rename_i n ds y e
    split at w
    · rename_i es e2
      obtain ⟨hl, w⟩ := ifN w
      obtain ⟨a, us, rfl, hn, p, r⟩ := own_ok R qx e
      obtain ⟨v, rfl, q1⟩ := qs.oneE
      obtain ⟨b, ws, rfl, p2, r2⟩ := lof_ok R q1 e2
      exact ⟨a, b, us, ws, rfl, rfl, p, p2, by rw [← r.length, ← r2.length]; exact szl hl, w.at (putL R hn (r.app r2)) _ rfl⟩
    · exact w.elim
  · exact w.elim
def popD (x : D) (xs : List D) (h : Hs) : R D := match own h x, xs with
  | some (n, ds), [] => match ds[ds.length - 1]? with
    | some d => .ok d (h.set n (.lst ds.dropLast))
    | none => .no
  | _, _ => .no
theorem VRs.dropLast {K : PySem.W.Frag} {ι : List Addr} {H : Hp} {ds : List D} {vs : List V} (q : VRs K ι H ds vs) : VRs K ι H ds.dropLast vs.dropLast := by
  rw [List.dropLast_eq_take, List.dropLast_eq_take, q.length]
  exact q.take _
theorem sim_pop : SimM g rPop popD := by
  intro H0 sp ι h H x xs vx vs W Q R qx qs w
  unfold popD at w
  split at w
  · rename_i n ds e
    split at w
    · rename_i d e2
      obtain ⟨a, us, rfl, hn, p, r⟩ := own_ok R qx e
      obtain ⟨v, g1, q1⟩ := r.get e2
      have T := putL R hn r.dropLast
      exact ⟨a, us, v, rfl, VRs.nil_iff.mp qs, p, by rw [← r.length]; exact g1, w.at T _ (VR.mono T.2 _ _ q1)⟩
    · exact w.elim
  · exact w.elim
def popAtD (x : D) (xs : List D) (h : Hs) : R D := match own h x, xs with
  | some (n, ds), [.int i] => if -9223372036854775808 ≤ i ∧ i < 9223372036854775808 then match seqIndex? i ds.length with
    | some k => match ds[k]? with
      | some d => .ok d (h.set n (.lst (ds.eraseIdx k)))
      | none => .no
    | none => .no else .no
  | _, _ => .no
theorem sim_popAt : SimM g rPopAt popAtD := by
  intro H0 sp ι h H x xs vx vs W Q R qx qs w
  unfold popAtD at w
  split at w
  · rename_i n ds i e
    obtain ⟨hi, w⟩ := ifN w
    split at w
    · rename_i k e1
      split at w
      · rename_i d e2
        obtain ⟨a, us, rfl, hn, p, r⟩ := own_ok R qx e
        obtain ⟨u, rfl, qi⟩ := qs.oneE
        have ei : u = .int i := qi
        subst ei
        obtain ⟨v, g1, q1⟩ := r.get e2
        have T := putL R hn (r.erase k)
        exact ⟨a, us, i, k, v, rfl, rfl, p, by omega, by omega, by rw [← r.length]; exact e1, g1, w.at T _ (VR.mono T.2 _ _ q1)⟩
      · exact w.elim
    · exact w.elim
  · exact w.elim
/-- sep.join(texts) -/
def txts : List D → Option (List (List Nat))
  | [] => some []
  | .str s :: r => (txts r).map (s :: ·)
  | _ => none
@[simp] theorem txts_map (l : List (List Nat)) : txts (l.map D.str) = some l := by
  induction l with
  | nil => rfl
  | cons a r ih => simp [txts, ih]
def joinL (sep : List Nat) : List (List Nat) → List Nat
  | [] => []
  | x :: r => x ++ (r.map (sep ++ ·)).flatten
theorem glue_fold (sep : List Nat) : ∀ (r : List (List Nat)) (acc : List Nat), (r.map mk).foldl (fun a p => a ++ (mk sep).cps ++ p.cps) acc.toArray = (acc ++ (r.map (sep ++ ·)).flatten).toArray
  | [], acc => by simp
  | x :: r, acc => by
    rw [List.map_cons, List.foldl_cons, List.map_cons, List.flatten_cons]
    have e : acc.toArray ++ (mk sep).cps ++ (mk x).cps = (acc ++ sep ++ x).toArray := by simp [mk]
    rw [e, glue_fold sep r]
    simp
theorem glue_is (sep : List Nat) (l : List (List Nat)) : Txt.join (mk sep) (l.map mk) = mk (joinL sep l) := by
  unfold Txt.join Builtin.Str.glued joinL
  cases l with
  | nil => rfl
  | cons x r =>
    have e := glue_fold sep r x
    simp only [List.map_cons, List.drop_succ_cons, List.drop_zero, List.headD_cons]
    exact congrArg (fun a => (⟨a⟩ : Str)) e
theorem joinL_len (sep : List Nat) : ∀ l : List (List Nat), (joinL sep l).length ≤ (l.map List.length).sum + l.length * sep.length := by
  have key : ∀ r : List (List Nat), ((r.map (sep ++ ·)).flatten).length = (r.map List.length).sum + r.length * sep.length := by
    intro r
    induction r with
    | nil => simp
    | cons x r ih =>
      rw [List.map_cons, List.flatten_cons, List.length_append, List.length_append, ih, List.map_cons, List.sum_cons, List.length_cons, Nat.succ_mul]
      omega
  intro l
  cases l with
  | nil => simp [joinL]
  | cons x r =>
    unfold joinL
    rw [List.length_append, key r, List.map_cons, List.sum_cons, List.length_cons, Nat.succ_mul]
    omega
def seqOf (h : Hs) : D → Option (List D)
  | .tup ds => some ds
  | x => lof h x
theorem seq_ok {K : PySem.W.Frag} {H0 : Hp} {sp ι : List Addr} {h : Hs} {H : Hp} (R : Rel K H0 sp ι h H) {d : D} {v : V} {ds : List D} (q : VR K ι H d v) (e : seqOf h d = some ds) : ∃ a vs, v = .ref a ∧ (SqL K H a vs ∨ SqT K H a vs) ∧ VRs K ι H ds vs := by
  unfold seqOf at e
  split at e
  · cases e
    obtain ⟨a, vs, rfl, p, r⟩ := q.tupE
    exact ⟨a, vs, rfl, .inr p, r⟩
  · obtain ⟨a, vs, rfl, p, r⟩ := lof_ok R q e
    exact ⟨a, vs, rfl, .inl (SqL.of p), r⟩
def lenSum (l : List (List Nat)) : Nat := (l.map List.length).sum
def joinD (x : D) (xs : List D) (h : Hs) : R D := match x, xs with
  | .str sep, [y] => match seqOf h y with
    | some ds => match txts ds with
      | some l => if lenSum l + l.length * sep.length ≤ 16777216 then .ok (.str (joinL sep l)) h else .no
      | none => .no
    | none => .no
  | _, _ => .no
theorem txts_ok {K : PySem.W.Frag} {ι : List Addr} {H : Hp} : ∀ {ds : List D} {vs : List V} {l : List (List Nat)}, VRs K ι H ds vs → txts ds = some l → vs = (l.map mk).map V.str ∧ ∀ s ∈ l, ∀ c ∈ s, c < 1114112
  | [], vs, l, q, e => by
    cases e
    exact ⟨VRs.nil_iff.mp q, fun s hs => by cases hs⟩
  | d :: ds, vs, l, q, e => by
    obtain ⟨v, r, rfl, q1, q2⟩ := VRs.cons_iff.mp q
    cases d with
    | str s =>
      unfold txts at e
      cases h : txts ds with
      | none => rw [h] at e; cases e
      | some l' =>
        rw [h] at e; cases e
        obtain ⟨rfl, hc⟩ := txts_ok q2 h
        obtain ⟨rfl, _, c1⟩ := q1.strE
        refine ⟨rfl, fun t ht => ?_⟩
        rcases List.mem_cons.mp ht with rfl | ht
        · exact c1
        · exact hc t ht
    | _ => cases e
theorem joinL_mem {sep : List Nat} {l : List (List Nat)} {c : Nat} (h : c ∈ joinL sep l) : c ∈ sep ∨ ∃ s ∈ l, c ∈ s := by
  cases l with
  | nil => cases h
  | cons x r =>
    unfold joinL at h
    rcases List.mem_append.mp h with h | h
    · exact .inr ⟨x, by simp, h⟩
    · obtain ⟨t, h1, h2⟩ := List.mem_flatten.mp h
      obtain ⟨s, h3, rfl⟩ := List.mem_map.mp h1
      rcases List.mem_append.mp h2 with h2 | h2
      · exact .inl h2
      · exact .inr ⟨s, by simp [h3], h2⟩
def rJoin (K : PySem.W.Frag) : V → List V → Hp → VK → Prop := fun x xs H Q => ∃ a p, ∃ ys : List Str, x = .str a ∧ xs = [.ref p] ∧ (SqL K H p (ys.map V.str) ∨ SqT K H p (ys.map V.str)) ∧
      (ys.map (·.length)).sum + ys.length * a.length ≤ 16777216 ∧ Q (.str (Txt.join a ys)) H
theorem sim_join : SimM g (rJoin g.K) joinD := by
  intro H0 sp ι h H x xs vx vs W Q R qx qs w
  unfold joinD at w
  split at w
  · rename_i sep y
    split at w
    · rename_i ds e1
      split at w
      · rename_i l e2
        obtain ⟨hl, w⟩ := ifN w
        obtain ⟨rfl, _, cs⟩ := qx.strE
        obtain ⟨v, rfl, q1⟩ := qs.oneE
        obtain ⟨a, us, rfl, p, r⟩ := seq_ok R q1 e1
        obtain ⟨rfl, hc⟩ := txts_ok r e2
        have e3 : ((l.map mk).map (·.length)) = l.map List.length := by
          rw [List.map_map]
          exact List.map_congr_left fun s _ => mk_len s
        refine ⟨_, a, l.map mk, rfl, rfl, p, ?_, ?_⟩
        · rw [e3, List.length_map, mk_len]; exact hl
        · rw [glue_is]
          refine w.here R _ (.strI (Nat.le_trans (joinL_len sep l) hl) fun c h => ?_)
          rcases joinL_mem h with h | ⟨s, hs, h⟩
          · exact cs c h
          · exact hc s hs c h
      · exact w.elim
    · exact w.elim
  · exact w.elim
def fM1 (f : D → List D → Hs → R D) (fo fe : FE) : FE := fun env h => (fo env h).bnd fun x h1 => match x with
  | .str s => (fe env h1).bnd fun y h2 => f (.str s) [y] h2
  | _ => .no
theorem sim_m1 {r : V → List V → Hp → VK → Prop} {f : D → List D → Hs → R D} {to te : TE} {fo fe : FE} (hr : SimM g r f) (ho : SimE g W to fo) (he : SimE g W te fe) : SimE g W (tM1 r to te) (fM1 f fo fe) := by
  intro H0 sp ι h H env σ Q R E w
  refine ho H0 sp ι h H env σ _ R E (WP.bnd w fun x h1 ι1 H1 R1 S1 w1 v1 q1 => ?_)
  cases x with
  | str s =>
    refine ⟨⟨_, q1.strE.1⟩, ?_⟩
    refine he H0 sp ι1 h1 H1 env σ _ R1 (E.mono S1) (WP.bnd w1 fun y h2 ι2 H2 R2 S2 w2 v2 q2 => ?_)
    exact hr H0 sp ι2 h2 H2 (.str s) [y] v1 [v2] W Q R2 (VR.mono S2 _ _ q1) (.one q2) w2
  | _ => exact w1.elim
end
end PF
namespace PF
open PySem PySem.Spec PyProof.Rows L2

/-! ### what a temporary leaves is dropped -/
mutual
def bel (n : Nat) : D → Bool
  | .tup xs => bels n xs
  | .lst xs => bels n xs
  | .ref m => decide (m < n)
  | _ => true
def bels (n : Nat) : List D → Bool
  | [] => true
  | d :: ds => bel n d && bels n ds
end
theorem bels_cons (n : Nat) (d : D) (ds : List D) : bels n (d :: ds) = (bel n d && bels n ds) := by rw [bels]
mutual
theorem bel_nor (n : Nat) : ∀ d : D, d.nor = true → bel n d = true
  | .tup xs, h => by unfold bel; exact bels_nors n xs (by simpa using h)
  | .lst xs, h => by unfold bel; exact bels_nors n xs (by simpa using h)
  | .ref _, h => by cases h
  | .non, _ => rfl
  | .bl _, _ => rfl
  | .int _, _ => rfl
  | .str _, _ => rfl
  | .scr _, _ => rfl
theorem bels_nors (n : Nat) : ∀ ds : List D, nors ds = true → bels n ds = true
  | [], _ => rfl
  | d :: ds, h => by
    rw [nors_cons, Bool.and_eq_true] at h
    rw [bels_cons, bel_nor n d h.1, bels_nors n ds h.2]; rfl
end
section
variable {K : PySem.W.Frag} {ι : List Addr} {H : Hp}
mutual
theorem VR.bel : ∀ (d : D) (v : V), VR K ι H d v → bel ι.length d = true
  | .tup xs, v, h => by
    obtain ⟨a, vs, _, _, r⟩ := h.tupE
    unfold PF.bel
    exact VRs.bel xs vs r
  | .lst xs, v, h => by
    unfold VR at h
    obtain ⟨a, vs, _, _, _, r⟩ := h
    unfold PF.bel
    exact VRs.bel xs vs r
  | .ref m, v, h => by
    unfold VR at h
    obtain ⟨a, _, e⟩ := h
    unfold PF.bel
    exact decide_eq_true (List.getElem?_eq_some_iff.mp e).1
  | .non, _, _ => rfl
  | .bl _, _, _ => rfl
  | .int _, _, _ => rfl
  | .str _, _, _ => rfl
  | .scr _, _, _ => rfl
theorem VRs.bel : ∀ (ds : List D) (vs : List V), VRs K ι H ds vs → bels ι.length ds = true
  | [], _, _ => rfl
  | d :: ds, vs, h => by
    obtain ⟨v, r, _, h1, h2⟩ := VRs.cons_iff.mp h
    rw [bels_cons, VR.bel d v h1, VRs.bel ds r h2]; rfl
end
variable {ι' : List Addr}
mutual
/-- fewer numbers are enough -/
theorem VR.less {n : Nat} (hs : ∀ a, a ∈ ι' → a ∈ ι) (hn : ∀ m : Nat, m < n → ι'[m]? = ι[m]?) : ∀ (d : D) (v : V), PF.bel n d = true → VR K ι H d v → VR K ι' H d v
  | .tup xs, v, b, h => by
    obtain ⟨a, vs, e, p, r⟩ := h.tupE
    unfold PF.bel at b
    unfold VR
    exact ⟨a, vs, e, p, VRs.less hs hn xs vs b r⟩
  | .lst xs, v, b, h => by
    unfold VR at h ⊢
    unfold PF.bel at b
    obtain ⟨a, vs, e, p, m, r⟩ := h
    exact ⟨a, vs, e, p, fun z => m (hs a z), VRs.less hs hn xs vs b r⟩
  | .ref m, v, b, h => by
    unfold VR at h ⊢
    unfold PF.bel at b
    obtain ⟨a, e, p⟩ := h
    exact ⟨a, e, (hn m (of_decide_eq_true b)).trans p⟩
  | .non, _, _, h => h
  | .bl _, _, _, h => h
  | .int _, _, _, h => h
  | .str _, _, _, h => h
  | .scr _, v, _, h => by
    unfold VR at h ⊢
    obtain ⟨a, e, q⟩ := h
    rcases q with ⟨q, m⟩ | q
    · exact ⟨a, e, .inl ⟨q, fun z => m (hs a z)⟩⟩
    · exact ⟨a, e, .inr q⟩
theorem VRs.less {n : Nat} (hs : ∀ a, a ∈ ι' → a ∈ ι) (hn : ∀ m : Nat, m < n → ι'[m]? = ι[m]?) : ∀ (ds : List D) (vs : List V), bels n ds = true → VRs K ι H ds vs → VRs K ι' H ds vs
  | [], _, _, h => h
  | d :: ds, vs, b, h => by
    obtain ⟨v, r, rfl, h1, h2⟩ := VRs.cons_iff.mp h
    rw [bels_cons, Bool.and_eq_true] at b
    exact .cons (VR.less hs hn d v b.1 h1) (VRs.less hs hn ds r b.2 h2)
end
def belO (n : Nat) : Ob → Bool
  | .lst ds => bels n ds
  | .dct kvs => bels n (kvs.map Prod.fst) && bels n (kvs.map Prod.snd)
theorem ObR.less {n : Nat} {o : Ob} {a : Addr} (hs : ∀ a, a ∈ ι' → a ∈ ι) (hn : ∀ m : Nat, m < n → ι'[m]? = ι[m]?) (b : belO n o = true) (h : ObR K ι H o a) : ObR K ι' H o a := by
  cases o with
  | lst ds =>
    obtain ⟨vs, e, r⟩ := h
    exact ⟨vs, e, VRs.less hs hn ds vs b r⟩
  | dct kvs =>
    obtain ⟨us, e, r1, r2, r3⟩ := h
    have b' : (bels n (kvs.map Prod.fst) && bels n (kvs.map Prod.snd)) = true := b
    rw [Bool.and_eq_true] at b'
    exact ⟨us, e, r1, VRs.less hs hn _ _ b'.1 r2, VRs.less hs hn _ _ b'.2 r3⟩
variable {H0 : Hp} {sp : List Addr} {h h' : Hs} {H' : Hp}
theorem ObR.bel {o : Ob} {a : Addr} (q : ObR K ι H o a) : belO ι.length o = true := by
  cases o with
  | lst ds => obtain ⟨vs, e, r⟩ := q; exact VRs.bel ds vs r
  | dct kvs =>
    obtain ⟨us, e, r1, r2, r3⟩ := q
    show (bels _ _ && bels _ _) = true
    rw [VRs.bel _ _ r2, VRs.bel _ _ r3]; rfl
/-- the objects behind the n-th are forgotten -/
theorem Rel.cut (r : Rel K H0 sp ι' h' H') {n : Nat} (hsp : ∀ a ∈ sp, a ∈ ι'.take n) (hb : ∀ o ∈ h'.take n, belO n o = true) : Rel K H0 sp (ι'.take n) (h'.take n) H' := by
  have hs : ∀ a, a ∈ ι'.take n → a ∈ ι' := fun a m => List.mem_of_mem_take m
  have hn : ∀ m : Nat, m < n → (ι'.take n)[m]? = ι'[m]? := fun m hm => by rw [List.getElem?_take]; simp [hm]
  refine ⟨by simp [r.len], r.nd.sublist (List.take_sublist n ι'), fun m o q => ?_, fun a o e hna => ?_, fun a m => r.new a (hs a m), hsp⟩
  · have hm : m < n := by
      have := (List.getElem?_eq_some_iff.mp q).1
      rw [List.length_take] at this; omega
    have q' : h'[m]? = some o := by
      rw [List.getElem?_take] at q; simpa [hm] using q
    obtain ⟨a, h1, h2⟩ := r.ob m o q'
    exact ⟨a, by rw [hn m hm]; exact h1, h2.less hs hn (hb o (List.mem_of_getElem? q))⟩
  · by_cases hm : a ∈ ι'
    · rcases r.new a hm with z | z
      · rw [e] at z; cases z
      · exact absurd (hsp a z) hna
    · exact r.base a o e hm
theorem Stp.len (s : Stp ι H ι' H') : ι.length ≤ ι'.length := by
  by_cases c : ι.length = 0
  · omega
  · have h1 : ι.length - 1 < ι.length := by omega
    have := s.pre (ι.length - 1) ι[ι.length - 1] (by simp [h1])
    have := (List.getElem?_eq_some_iff.mp this).1
    omega
theorem Stp.take_eq (s : Stp ι H ι' H') : ι'.take ι.length = ι := by
  refine List.ext_getElem? fun n => ?_
  rw [List.getElem?_take]
  by_cases c : n < ι.length
  · rw [if_pos c, s.pre n ι[n] (by simp [c])]; simp [c]
  · rw [if_neg c]; simp at c; simp [c]
theorem Stp.back (s : Stp ι H ι' H') : Stp ι H ι H' := ⟨fun _ _ e => e, fun a o e n => ⟨(s.keep a o e n).1, n⟩, s.tup⟩
end
theorem getElem?_inj' {α : Type} {l : List α} (nd : l.Nodup) {i j : Nat} {a : α} (h1 : l[i]? = some a) (h2 : l[j]? = some a) : i = j := by
  obtain ⟨l1, e1⟩ := List.getElem?_eq_some_iff.mp h1
  obtain ⟨l2, e2⟩ := List.getElem?_eq_some_iff.mp h2
  exact (List.getElem_inj nd).mp (e1.trans e2.symm)
theorem Rel.backTo {K : PySem.W.Frag} {H0 : Hp} {sp ι ι' : List Addr} {h h' : Hs} {H H' : Hp} (R : Rel K H0 sp ι h H) (R' : Rel K H0 sp ι' h' H') (S' : Stp ι H ι' H') (c : (h'.take h.length).all (belO h.length) = true) : Rel K H0 sp ι (h'.take h.length) H' ∧ Stp ι H ι H' := by
  have e : ι'.take h.length = ι := by rw [← R.len]; exact S'.take_eq
  have x := R'.cut (n := h.length) (fun a hs => by rw [e]; exact R.spin a hs) (fun o m => List.all_eq_true.mp c o m)
  rw [e] at x
  exact ⟨x, S'.back⟩
/-- a temporary: of a plain value nothing stays, of a new object itself alone -/
def tmpR (h : Hs) (r : R D) : R D := match r with
  | .ok a h' => if (h'.take h.length).all (belO h.length) = true then (if a.pur = true then .ok a (h'.take h.length) else match a with
    | .ref m => if m < h.length then .ok a (h'.take h.length) else match h'[m]? with
      | some o => if belO h.length o = true then .ok (.ref h.length) (h'.take h.length ++ [o]) else .ok a h'
      | none => .ok a h'
    | _ => .ok a h') else .ok a h'
  | r => r
def tmpB (h : Hs) (r : R Bool) : R Bool := match r with
  | .ok a h' => if (h'.take h.length).all (belO h.length) = true then .ok a (h'.take h.length) else .ok a h'
  | r => r
section
variable {g : G} {H0 : Hp} {sp ι : List Addr} {h : Hs} {H : Hp} {W : Wx}
theorem tmpB_ok {r : R Bool} {P : Bool → Hp → Prop} (R : Rel g.K H0 sp ι h H) (w : WP g H0 sp W ι H (tmpB h r) fun b _ _ H' => P b H') : WP g H0 sp W ι H r fun b _ _ H' => P b H' := by
  cases r with
  | ok a h' =>
    by_cases c : (h'.take h.length).all (belO h.length) = true
    · simp only [tmpB, if_pos c] at w
      intro ι' H' R' S'
      exact w.at (R.backTo R' S' c)
    · simp only [tmpB, if_neg c] at w; exact w
  | er e v h1 => exact w
  | no => exact w
theorem tmpR_ok {r : R D} {Q : VK} (R : Rel g.K H0 sp ι h H) (w : WP g H0 sp W ι H (tmpR h r) fun d _ ι' H' => ∀ v, VR g.K ι' H' d v → Q v H') : WP g H0 sp W ι H r fun d _ ι' H' => ∀ v, VR g.K ι' H' d v → Q v H' := by
  cases r with
  | er e v h1 => exact w
  | no => exact w
  | ok a h' =>
    by_cases c : (h'.take h.length).all (belO h.length) = true
    · simp only [tmpR, if_pos c] at w
      by_cases cp : a.pur = true
      · simp only [if_pos cp] at w
        intro ι' H' R' S' v q
        exact w.at (R.backTo R' S' c) v (VR.pur a v cp q)
      · simp only [if_neg cp] at w
        cases a with
        | ref m =>
          simp only at w
          by_cases cm : m < h.length
          · simp only [if_pos cm] at w
            intro ι' H' R' S' v q
            refine w.at (R.backTo R' S' c) v ?_
            unfold VR at q ⊢
            obtain ⟨b, e1, e2⟩ := q
            have hm : m < ι.length := by rw [R.len]; exact cm
            have := S'.pre m ι[m] (by simp [hm])
            rw [e2] at this; cases this
            exact ⟨_, e1, by simp [hm]⟩
          · simp only [if_neg cm] at w
            cases e : h'[m]? with
            | none => simp only [e] at w; exact w
            | some o =>
              simp only [e] at w
              by_cases cb : belO h.length o = true
              · simp only [if_pos cb] at w
                intro ι' H' R' S' v q
                obtain ⟨b, e1, qo⟩ := R'.ob m _ e
                unfold VR at q
                obtain ⟨b', rfl, e5⟩ := q
                rw [e1] at e5; cases e5
                obtain ⟨RB, SB⟩ := R.backTo R' S' c
                have hlen : (h'.take h.length).length = h.length := by rw [← RB.len, R.len]
                have hb : b ∉ ι := fun z => by
                  obtain ⟨i, hi⟩ := List.getElem?_of_mem z
                  have := getElem?_inj' R'.nd (S'.pre i b hi) e1
                  have hl := (List.getElem?_eq_some_iff.mp hi).1
                  rw [R.len] at hl
                  omega
                have hsub : ∀ a, a ∈ ι ++ [b] → a ∈ ι' := fun a z => by
                  rcases List.mem_append.mp z with z | z
                  · obtain ⟨i, hi⟩ := List.getElem?_of_mem z
                    exact List.mem_of_getElem? (S'.pre i a hi)
                  · have : a = b := by simpa using z
                    rw [this]; exact List.mem_of_getElem? e1
                have hget : ∀ k : Nat, k < h.length → (ι ++ [b])[k]? = ι'[k]? := fun k hk => by
                  have hk' : k < ι.length := by rw [R.len]; exact hk
                  rw [List.getElem?_append_left hk', S'.pre k ι[k] (by simp [hk'])]
                  simp [hk']
                have SC : Stp ι H (ι ++ [b]) H' := ⟨fun n a z => by rw [List.getElem?_append_left (List.getElem?_eq_some_iff.mp z).1]; exact z, fun a o z na => ⟨(SB.keep a o z na).1, fun z2 => by
                  rcases List.mem_append.mp z2 with z2 | z2
                  · exact na z2
                  · have : a = b := by simpa using z2
                    subst this
                    exact (S'.keep a o z na).2 (List.mem_of_getElem? e1)⟩, SB.tup⟩
                have RC : Rel g.K H0 sp (ι ++ [b]) (h'.take h.length ++ [o]) H' := by
                  refine ⟨by rw [List.length_append, List.length_append, hlen, R.len]; rfl, ?_, fun k x z => ?_, fun a x z na => RB.base a x z fun z2 => na (List.mem_append_left _ z2), fun a z => R'.new a (hsub a z), fun a z => List.mem_append_left _ (R.spin a z)⟩
                  · rw [List.nodup_append]
                    exact ⟨R.nd, by simp, fun a ha y hy => by
                      have : y = b := by simpa using hy
                      rw [this]; intro z; exact hb (z ▸ ha)⟩
                  · by_cases hk : k < h.length
                    · rw [List.getElem?_append_left (by rw [hlen]; exact hk)] at z
                      have z4 : h'[k]? = some x := by rw [List.getElem?_take] at z; simpa [hk] using z
                      obtain ⟨a2, z5, z6⟩ := R'.ob k x z4
                      exact ⟨a2, by rw [hget k hk]; exact z5, z6.less hsub hget (List.all_eq_true.mp c x (List.mem_of_getElem? z))⟩
                    · have hk2 : k = h.length := by
                        have := (List.getElem?_eq_some_iff.mp z).1
                        rw [List.length_append, hlen] at this
                        simp at this; omega
                      subst hk2
                      rw [List.getElem?_append_right (by rw [hlen]; exact Nat.le_refl _), hlen] at z
                      simp at z; subst z
                      exact ⟨b, by rw [← R.len]; simp, qo.less hsub hget cb⟩
                refine w.at ⟨RC, SC⟩ (.ref b) ?_
                unfold VR
                exact ⟨b, rfl, by rw [← R.len]; simp⟩
              · simp only [if_neg cb] at w; exact w
        | _ => exact w
    · simp only [tmpR, if_neg c] at w; exact w
end
def fTmp (fe : FE) : FE := fun env h => tmpR h (fe env h)
def fTmpB (ft : FT) : FT := fun env h => tmpB h (ft env h)
section
variable {g : G} {W : Wx} {te : TE} {fe : FE} {t : TT} {ft : FT}
theorem sim_tmp (he : SimE g W te fe) : SimE g W te (fTmp fe) := fun H0 sp ι h H env σ Q R E w => he H0 sp ι h H env σ Q R E (tmpR_ok R w)
theorem sim_tmpB (ht : SimT g W t ft) : SimT g W t (fTmpB ft) := fun H0 sp ι h H env σ Q R E w => ht H0 sp ι h H env σ Q R E (tmpB_ok R w)
end
end PF
namespace PF
open PySem PySem.Spec PyProof.Rows L2

/-! ### statements -/
inductive Fl where
  | nx (e : En) | rt (d : D) | bk (e : En) | ct (e : En)
abbrev FS := En → Hs → R Fl
abbrev FG := D → En → Hs → R En
abbrev FGs := List D → En → Hs → R En
def PostS (K : PySem.W.Frag) (Z : Ends) : Fl → Hs → List Addr → Hp → Prop
  | .nx e, _, ι, H => ∀ σ, EnvR K ι H e σ → Z.nx σ H
  | .rt d, _, ι, H => ∀ v, VR K ι H d v → Z.rt v H
  | .bk e, _, ι, H => ∀ σ, EnvR K ι H e σ → Z.bk σ H
  | .ct e, _, ι, H => ∀ σ, EnvR K ι H e σ → Z.ct σ H
def SimS (g : G) (W : Wx) (t : TS) (fs : FS) : Prop := ∀ (H0 : Hp) (sp ι : List Addr) (h : Hs) (H : Hp) (env : En) (σ : L2.St) (Z : Ends), Rel g.K H0 sp ι h H → EnvR g.K ι H env σ →
  WP g H0 sp W ι H (fs env h) (PostS g.K Z) → t Z σ H
def SimG (g : G) (W : Wx) (tg : TG) (fg : FG) : Prop := ∀ (H0 : Hp) (sp ι : List Addr) (h : Hs) (H : Hp) (env : En) (σ : L2.St) (d : D) (v : V) (Q : L2.St → Hp → Prop), Rel g.K H0 sp ι h H → EnvR g.K ι H env σ → VR g.K ι H d v →
  WP g H0 sp W ι H (fg d env h) (fun e _ ι' H' => ∀ σ', EnvR g.K ι' H' e σ' → Q σ' H') → tg v σ H Q
def SimGs (g : G) (W : Wx) (tg : TGs) (fg : FGs) : Prop := ∀ (H0 : Hp) (sp ι : List Addr) (h : Hs) (H : Hp) (env : En) (σ : L2.St) (ds : List D) (vs : List V) (Q : L2.St → Hp → Prop), Rel g.K H0 sp ι h H → EnvR g.K ι H env σ → VRs g.K ι H ds vs →
  WP g H0 sp W ι H (fg ds env h) (fun e _ ι' H' => ∀ σ', EnvR g.K ι' H' e σ' → Q σ' H') → tg vs σ H Q
section
variable {g : G} {W : Wx} {te ta tb : TE} {fe fa fb : FE} {t u : TS} {ft fu : FS} {tc : TT} {fc : FT} {tg : TG} {fg : FG}
/-! targets -/
def gN (i : Nat) : FG := fun d env h => .ok (env.set i (some d)) h
theorem sim_gname (i : Nat) : SimG g W (gName i) (gN i) := fun H0 sp ι h H env σ d v Q R E q w => w.here R _ (E.set q)
def gNilF : FGs := fun ds env h => match ds with
  | [] => .ok env h
  | _ => .no
def gConsF (fg : FG) (fr : FGs) : FGs := fun ds env h => match ds with
  | d :: r => (fg d env h).bnd fun e h1 => fr r e h1
  | [] => .no
theorem sim_gnil : SimGs g W gNil gNilF := by
  intro H0 sp ι h H env σ ds vs Q R E q w
  cases ds with
  | nil => exact ⟨VRs.nil_iff.mp q, w.here R _ E⟩
  | cons d r => exact w.elim
theorem sim_gcons {tr : TGs} {fr : FGs} (hg : SimG g W tg fg) (hr : SimGs g W tr fr) : SimGs g W (gCons tg tr) (gConsF fg fr) := by
  intro H0 sp ι h H env σ ds vs Q R E q w
  cases ds with
  | nil => exact w.elim
  | cons d r =>
    obtain ⟨v, us, rfl, q1, q2⟩ := VRs.cons_iff.mp q
    refine ⟨v, us, rfl, hg H0 sp ι h H env σ d v _ R E q1 (WP.bnd w fun e h1 ι1 H1 R1 S1 w1 σ1 E1 => ?_)⟩
    exact hr H0 sp ι1 h1 H1 e σ1 r us Q R1 E1 (VRs.mono S1 _ _ q2) w1
def gT (n : Nat) (fr : FGs) : FG := fun d env h => match d with
  | .tup ds => if ds.length = n then fr ds env h else .no
  | _ => .no
theorem sim_gtup {n : Nat} {tr : TGs} {fr : FGs} (hr : SimGs g W tr fr) : SimG g W (gTup g.K n tr) (gT n fr) := by
  intro H0 sp ι h H env σ d v Q R E q w
  cases d with
  | tup ds =>
    obtain ⟨hn, w⟩ := ifN w
    obtain ⟨a, vs, rfl, p, r⟩ := q.tupE
    exact ⟨a, vs, rfl, p, by rw [← r.length]; exact hn, hr H0 sp ι h H env σ ds vs Q R E r w⟩
  | _ => exact w.elim
def gS (fo fi : FE) : FG := fun d env h => (fo env h).bnd fun x h1 => (fi env h1).bnd fun y h2 => match own h2 x, y with
  | some (n, ds), .int k => match ixN ds.length k with
    | some j => .ok env (h2.set n (.lst (ds.set j d)))
    | none => .no
  | _, _ => .no
theorem sim_gsub {to ti : TE} {fo fi : FE} (ho : SimE g W to fo) (hi : SimE g W ti fi) : SimG g W (gSub to ti rSetL) (gS fo fi) := by
  intro H0 sp ι h H env σ d v Q R E q w
  refine ho H0 sp ι h H env σ _ R E (WP.bnd w fun x h1 ι1 H1 R1 S1 w1 v1 q1 => ?_)
  refine hi H0 sp ι1 h1 H1 env σ _ R1 (E.mono S1) (WP.bnd w1 fun y h2 ι2 H2 R2 S2 w2 v2 q2 => ?_)
  split at w2
  · rename_i n ds k e
    split at w2
    · rename_i j ej
      obtain ⟨a, vs, rfl, hn, p, r⟩ := own_ok R2 (VR.mono S2 _ _ q1) e
      have T := putL R2 hn (VRs.set (VR.mono (S1.trans S2) _ _ q) j r)
      exact ⟨a, vs, k, j, rfl, q2, p, by rw [← r.length]; exact ej, w2.at T _ ((E.mono (S1.trans S2)).mono T.2)⟩
    · exact w2.elim
  · exact w2.elim

/-! blocks -/
def fNext : FS := fun env h => .ok (.nx env) h
def fSeq (a b : FS) : FS := fun env h => (a env h).bnd fun fl h1 => match fl with
  | .nx e => b e h1
  | .rt d => .ok (.rt d) h1
  | .bk e => .ok (.bk e) h1
  | .ct e => .ok (.ct e) h1
theorem sim_next : SimS g W tNext fNext := fun H0 sp ι h H env σ Z R E w => w.here R _ E
theorem sim_seq (ha : SimS g W t ft) (hb : SimS g W u fu) : SimS g W (tSeq t u) (fSeq ft fu) := by
  intro H0 sp ι h H env σ Z R E w
  refine ha H0 sp ι h H env σ _ R E (WP.bnd w fun fl h1 ι1 H1 R1 S1 w1 => ?_)
  cases fl with
  | nx e => exact fun σ1 E1 => hb H0 sp ι1 h1 H1 e σ1 Z R1 E1 w1
  | rt d => exact w1.here R1
  | bk e => exact w1.here R1
  | ct e => exact w1.here R1
def fBreak : FS := fun env h => .ok (.bk env) h
def fCont : FS := fun env h => .ok (.ct env) h
theorem sim_break : SimS g W tBreak fBreak := fun H0 sp ι h H env σ Z R E w => w.here R _ E
theorem sim_cont : SimS g W tCont fCont := fun H0 sp ι h H env σ Z R E w => w.here R _ E
def fAsg (fe : FE) (fg : FG) : FS := fun env h => (fe env h).bnd fun d h1 => (fg d env h1).bnd fun e h2 => .ok (.nx e) h2
theorem sim_asg (he : SimE g W te fe) (hg : SimG g W tg fg) : SimS g W (tAsg te tg) (fAsg fe fg) := by
  intro H0 sp ι h H env σ Z R E w
  refine he H0 sp ι h H env σ _ R E (WP.bnd w fun d h1 ι1 H1 R1 S1 w1 v1 q1 => ?_)
  refine hg H0 sp ι1 h1 H1 env σ d v1 _ R1 (E.mono S1) q1 (WP.bnd w1 fun e h2 ι2 H2 R2 S2 w2 σ2 E2 => ?_)
  exact w2.here R2 σ2 E2
def fDrop (fe : FE) : FS := fun env h => (fe env h).bnd fun _ h1 => .ok (.nx env) h1
theorem sim_drop (he : SimE g W te fe) : SimS g W (tDrop te) (fDrop fe) := by
  intro H0 sp ι h H env σ Z R E w
  refine he H0 sp ι h H env σ _ R E (WP.bnd w fun d h1 ι1 H1 R1 S1 w1 v1 q1 => ?_)
  exact w1.here R1 σ (E.mono S1)
def fRet (fe : FE) : FS := fun env h => (fe env h).bnd fun d h1 => .ok (.rt d) h1
theorem sim_ret (he : SimE g W te fe) : SimS g W (tRet te) (fRet fe) := by
  intro H0 sp ι h H env σ Z R E w
  refine he H0 sp ι h H env σ _ R E (WP.bnd w fun d h1 ι1 H1 R1 S1 w1 v1 q1 => ?_)
  exact w1.here R1 v1 q1
def fRetN : FS := fun _ h => .ok (.rt .non) h
theorem sim_retN : SimS g W tRetN fRetN := fun H0 sp ι h H env σ Z R E w => w.here R _ rfl
def fIfS (fc : FT) (a b : FS) : FS := fun env h => (fc env h).bnd fun c h1 => if c = true then a env h1 else b env h1
theorem sim_ifS (hc : SimT g W tc fc) (ha : SimS g W t ft) (hb : SimS g W u fu) : SimS g W (tIfS tc t u) (fIfS fc ft fu) := by
  intro H0 sp ι h H env σ Z R E w
  refine hc H0 sp ι h H env σ _ R E (WP.bnd w fun c h1 ι1 H1 R1 S1 w1 => ?_)
  cases c with
  | true => rw [if_pos rfl] at w1 ⊢; exact ha H0 sp ι1 h1 H1 env σ Z R1 (E.mono S1) w1
  | false => rw [if_neg Bool.false_ne_true] at w1 ⊢; exact hb H0 sp ι1 h1 H1 env σ Z R1 (E.mono S1) w1
/-- a, b = e1, e2 -/
def fPar (i j : Nat) (fa : FA) : FS := fun env h => (fa env h).bnd fun ds h1 => match ds with
  | [x, y] => .ok (.nx ((env.set i (some x)).set j (some y))) h1
  | _ => .no
theorem sim_par {i j : Nat} {ta : TA} {fa : FA} (ha : SimA g W ta fa) : SimS g W (tPar i j ta) (fPar i j fa) := by
  intro H0 sp ι h H env σ Z R E w
  refine ha H0 sp ι h H env σ _ R E (WP.bnd w fun ds h1 ι1 H1 R1 S1 w1 vs q => ?_)
  split at w1
  · obtain ⟨v, v', rfl, q1, q2⟩ := q.twoE
    exact ⟨v, v', rfl, w1.here R1 _ (((E.mono S1).set q1).set q2)⟩
  · exact w1.elim
def fPar3 (i j l : Nat) (fa : FA) : FS := fun env h => (fa env h).bnd fun ds h1 => match ds with
  | [x, y, z] => .ok (.nx (((env.set i (some x)).set j (some y)).set l (some z))) h1
  | _ => .no
theorem sim_par3 {i j l : Nat} {ta : TA} {fa : FA} (ha : SimA g W ta fa) : SimS g W (tPar3 i j l ta) (fPar3 i j l fa) := by
  intro H0 sp ι h H env σ Z R E w
  refine ha H0 sp ι h H env σ _ R E (WP.bnd w fun ds h1 ι1 H1 R1 S1 w1 vs q => ?_)
  split at w1
  · obtain ⟨v, r, rfl, q1, q2⟩ := VRs.cons_iff.mp q
    obtain ⟨v', v'', rfl, q3, q4⟩ := q2.twoE
    exact ⟨v, v', v'', rfl, w1.here R1 _ ((((E.mono S1).set q1).set q3).set q4)⟩
  · exact w1.elim
/-- name op= e -/
def fAug (i : Nat) (f : D → D → Hs → R D) (fe : FE) : FS := fun env h => match env[i]? with
  | some (some x) => (fe env h).bnd fun y h1 => (f x y h1).bnd fun z h2 => .ok (.nx (env.set i (some z))) h2
  | _ => .no
theorem sim_aug {i : Nat} {r : R2} {f : D → D → Hs → R D} (hr : SimR2 g r f) (he : SimE g W te fe) : SimS g W (tAug i te r) (fAug i f fe) := by
  intro H0 sp ι h H env σ Z R E w
  unfold fAug at w
  cases hi : env[i]? with
  | none => rw [hi] at w; exact w.elim
  | some o =>
    cases o with
    | none => rw [hi] at w; exact w.elim
    | some x =>
      rw [hi] at w
      obtain ⟨vx, g1, g2⟩ := E.2 i x hi
      refine ⟨vx, g1, he H0 sp ι h H env σ _ R E (WP.bnd w fun y h1 ι1 H1 R1 S1 w1 v1 q1 => ?_)⟩
      refine hr H0 sp ι1 h1 H1 x y vx v1 W _ R1 (VR.mono S1 _ _ g2) q1 (WP.bnd w1 fun z h2 ι2 H2 R2 S2 w2 v2 q2 => ?_)
      exact w2.here R2 _ ((E.mono (S1.trans S2)).set q2)
/-- o[i] op= e, a list -/
def fAugL (fo fi fe : FE) (f : D → D → Hs → R D) : FS := fun env h => (fo env h).bnd fun o h1 => (fi env h1).bnd fun k h2 => (ixD o k h2).bnd fun x h3 => (fe env h3).bnd fun y h4 => (f x y h4).bnd fun z h5 => match own h5 o, k with
  | some (n, ds), .int k => match ixN ds.length k with
    | some j => .ok (.nx env) (h5.set n (.lst (ds.set j z)))
    | none => .no
  | _, _ => .no
theorem sim_augL {to ti : TE} {fo fi : FE} {r : R2} {f : D → D → Hs → R D} (hr : SimR2 g r f) (ho : SimE g W to fo) (hi : SimE g W ti fi) (he : SimE g W te fe) : SimS g W (tAugS to ti te (rIx g.K) r rSetL) (fAugL fo fi fe f) := by
  intro H0 sp ι h H env σ Z R E w
  refine ho H0 sp ι h H env σ _ R E (WP.bnd w fun o h1 ι1 H1 R1 S1 w1 v1 q1 => ?_)
  refine hi H0 sp ι1 h1 H1 env σ _ R1 (E.mono S1) (WP.bnd w1 fun k h2 ι2 H2 R2 S2 w2 v2 q2 => ?_)
  refine sim_ix H0 sp ι2 h2 H2 o k v1 v2 W _ R2 (VR.mono S2 _ _ q1) q2 (WP.bnd w2 fun x h3 ι3 H3 R3 S3 w3 v3 q3 => ?_)
  refine he H0 sp ι3 h3 H3 env σ _ R3 (E.mono ((S1.trans S2).trans S3)) (WP.bnd w3 fun y h4 ι4 H4 R4 S4 w4 v4 q4 => ?_)
  refine hr H0 sp ι4 h4 H4 x y v3 v4 W _ R4 (VR.mono S4 _ _ q3) q4 (WP.bnd w4 fun z h5 ι5 H5 R5 S5 w5 v5 q5 => ?_)
  split at w5
  · rename_i n ds k e
    split at w5
    · rename_i j ej
      have SS := (((S2.trans S3).trans S4).trans S5)
      obtain ⟨a, vs, rfl, hn, p, r⟩ := own_ok R5 (VR.mono SS _ _ q1) e
      have T := putL R5 hn (VRs.set q5 j r)
      exact ⟨a, vs, k, j, rfl, q2, p, by rw [← r.length]; exact ej, w5.at T _ ((E.mono (S1.trans SS)).mono T.2)⟩
    · exact w5.elim
  · exact w5.elim

/-! ### while -/
def whileN (fc : FT) (fb : FS) : Nat → FS
  | 0 => fun _ _ => .no
  | n + 1 => fun env h => (fc env h).bnd fun c h1 => if c = true then (fb env h1).bnd fun fl h2 => match fl with
      | .nx e => whileN fc fb n e h2
      | .ct e => whileN fc fb n e h2
      | .bk e => .ok (.nx e) h2
      | .rt d => .ok (.rt d) h2
    else .ok (.nx env) h1
theorem sim_whileN (hc : SimT g W tc fc) (hb : SimS g W t ft) (n : Nat) : SimS g W (tWhile tc t) (whileN fc ft n) := by
  intro H0 sp ι h H env σ Z R E w
  refine ⟨fun m σ H => ∃ (ι : List Addr) (h : Hs) (env : En), Rel g.K H0 sp ι h H ∧ EnvR g.K ι H env σ ∧ WP g H0 sp W ι H (whileN fc ft m env h) (PostS g.K Z), ⟨n, ι, h, env, R, E, w⟩, ?_⟩
  rintro m σ H ⟨ι, h, env, R, E, w⟩
  cases m with
  | zero => exact w.elim
  | succ m =>
    refine hc H0 sp ι h H env σ _ R E (WP.bnd w fun c h1 ι1 H1 R1 S1 w1 => ?_)
    cases c with
    | false =>
      rw [if_neg Bool.false_ne_true] at w1 ⊢
      exact w1.here R1 σ (E.mono S1)
    | true =>
      rw [if_pos rfl] at w1 ⊢
      refine ⟨fun σ' H' => ∃ (ι : List Addr) (h : Hs) (env : En), Rel g.K H0 sp ι h H' ∧ EnvR g.K ι H' env σ' ∧ WP g H0 sp W ι H' (whileN fc ft m env h) (PostS g.K Z), fun σ' H' x => ⟨m, Nat.lt_succ_self m, x⟩, ?_⟩
      refine hb H0 sp ι1 h1 H1 env σ _ R1 (E.mono S1) (WP.bnd w1 fun fl h2 ι2 H2 R2 S2 w2 => ?_)
      cases fl with
      | nx e => exact fun σ2 E2 => ⟨ι2, h2, e, R2, E2, w2⟩
      | ct e => exact fun σ2 E2 => ⟨ι2, h2, e, R2, E2, w2⟩
      | bk e => exact fun σ2 E2 => w2.here R2 σ2 E2
      | rt d => exact w2.here R2
def R.isNo {α : Type} : R α → Prop
  | .no => True
  | _ => False
open Classical in
noncomputable def fWhile (fc : FT) (fb : FS) : FS := fun env h => if hx : ∃ n, ¬ (whileN fc fb n env h).isNo then whileN fc fb hx.choose env h else .no
theorem sim_while (hc : SimT g W tc fc) (hb : SimS g W t ft) : SimS g W (tWhile tc t) (fWhile fc ft) := by
  intro H0 sp ι h H env σ Z R E w
  unfold fWhile at w
  by_cases hx : ∃ n, ¬ (whileN fc ft n env h).isNo
  · rw [dif_pos hx] at w
    exact sim_whileN hc hb _ H0 sp ι h H env σ Z R E w
  · rw [dif_neg hx] at w; exact w.elim
theorem whileN_more {fc : FT} {fb : FS} : ∀ (n : Nat) (env : En) (h : Hs), ¬ (whileN fc fb n env h).isNo → whileN fc fb (n + 1) env h = whileN fc fb n env h
  | 0, env, h, q => absurd trivial q
  | n + 1, env, h, q => by
    have e1 : whileN fc fb (n + 1 + 1) env h = (fc env h).bnd fun c h1 => if c = true then (fb env h1).bnd fun fl h2 => match fl with
      | .nx e => whileN fc fb (n + 1) e h2
      | .ct e => whileN fc fb (n + 1) e h2
      | .bk e => .ok (.nx e) h2
      | .rt d => .ok (.rt d) h2
      else .ok (.nx env) h1 := rfl
    have e2 : whileN fc fb (n + 1) env h = (fc env h).bnd fun c h1 => if c = true then (fb env h1).bnd fun fl h2 => match fl with
      | .nx e => whileN fc fb n e h2
      | .ct e => whileN fc fb n e h2
      | .bk e => .ok (.nx e) h2
      | .rt d => .ok (.rt d) h2
      else .ok (.nx env) h1 := rfl
    rw [e2] at q
    rw [e1, e2]
    cases h1 : fc env h with
    | er e v hh => rfl
    | no => rfl
    | ok c hh =>
      rw [h1] at q
      simp only [bnd_ok] at q ⊢
      cases c with
      | false => rfl
      | true =>
        simp only [if_true] at q ⊢
        cases h2 : fb env hh with
        | er e v h3 => rfl
        | no => rfl
        | ok fl h3 =>
          rw [h2] at q
          simp only [bnd_ok] at q ⊢
          cases fl with
          | nx e => exact whileN_more n e h3 q
          | ct e => exact whileN_more n e h3 q
          | bk e => rfl
          | rt d => rfl
theorem whileN_le {fc : FT} {fb : FS} {n m : Nat} {env : En} {h : Hs} (hm : n ≤ m) (q : ¬ (whileN fc fb n env h).isNo) : whileN fc fb m env h = whileN fc fb n env h := by
  induction m with
  | zero =>
    have : n = 0 := by omega
    rw [this]
  | succ m ih =>
    by_cases c : n = m + 1
    · rw [c]
    · have e := ih (by omega)
      rw [whileN_more m env h (by rw [e]; exact q), e]
theorem fWhile_eq {fc : FT} {fb : FS} {n : Nat} {env : En} {h : Hs} {r : R Fl} (e : whileN fc fb n env h = r) (q : ¬ r.isNo) : fWhile fc fb env h = r := by
  subst e
  unfold fWhile
  have hx : ∃ n, ¬ (whileN fc fb n env h).isNo := ⟨n, q⟩
  rw [dif_pos hx]
  by_cases c : n ≤ hx.choose
  · exact whileN_le c q
  · exact (whileN_le (show hx.choose ≤ n by omega) hx.choose_spec).symm
end
end PF
namespace PF
open PySem PySem.Spec PyProof.Rows L2

/-! ### what is walked: the items, the lists that must stay as they are -/
structure Src where
  items : List D
  gd : List (Nat × List D)
def Src.good (s : Src) (h : Hs) : Prop := ∀ p ∈ s.gd, h[p.1]? = some (.lst p.2)
abbrev FI := En → Hs → R Src
def Wk (K : PySem.W.Frag) (H0 : Hp) (sp : List Addr) (J : It) (s : Src) (ι0 : List Addr) (Hs0 : Hp) : Prop := ∀ (ι : List Addr) (h : Hs) (H : Hp), Rel K H0 sp ι h H → Stp ι0 Hs0 ι H → s.good h →
  (∀ i, i < s.items.length → J.go i H ∧ ∀ x H', J.yld i H x H' → ∃ d, s.items[i]? = some d ∧ (Rel K H0 sp ι h H' ∧ Stp ι H ι H') ∧ VR K ι H' d x) ∧ J.stop s.items.length H
def SimI (g : G) (W : Wx) (wi : TI) (fi : FI) : Prop := ∀ (H0 : Hp) (sp ι : List Addr) (h : Hs) (H : Hp) (env : En) (σ : L2.St) (Q : It → Hp → Prop), Rel g.K H0 sp ι h H → EnvR g.K ι H env σ →
  WP g H0 sp W ι H (fi env h) (fun s _ ι' H' => ∀ J, Wk g.K H0 sp J s ι' H' → Q J H') → wi σ H Q
open Classical in
noncomputable def forN (fg : FG) (fb : FS) (s : Src) : List D → FS
  | [] => fun env h => if s.good h then .ok (.nx env) h else .no
  | d :: r => fun env h => if s.good h then (fg d env h).bnd fun e h1 => (fb e h1).bnd fun fl h2 => match fl with
      | .nx e2 => forN fg fb s r e2 h2
      | .ct e2 => forN fg fb s r e2 h2
      | .bk e2 => .ok (.nx e2) h2
      | .rt x => .ok (.rt x) h2
    else .no
noncomputable def fFor (fi : FI) (fg : FG) (fb : FS) : FS := fun env h => (fi env h).bnd fun s h1 => forN fg fb s s.items env h1
section
variable {g : G} {W : Wx} {te ta tb : TE} {fe fa fb : FE} {tc : TT} {fc : FT} {tg : TG} {fg : FG} {wi : TI} {fi : FI}
theorem ifC {α : Type} {H0 : Hp} {sp ι : List Addr} {H : Hp} {c : Prop} {i : Decidable c} {r : R α} {P : α → Hs → List Addr → Hp → Prop} (w : WP g H0 sp W ι H (@ite _ c i r .no) P) : c ∧ WP g H0 sp W ι H r P := by
  by_cases hc : c
  · rw [if_pos hc] at w; exact ⟨hc, w⟩
  · rw [if_neg hc] at w; exact w.elim
theorem sim_for {t : TS} {ft : FS} (hi : SimI g W wi fi) (hg : SimG g W tg fg) (hb : SimS g W t ft) : SimS g W (tFor wi tg t) (fFor fi fg ft) := by
  intro H0 sp ι h H env σ Z R E w
  refine hi H0 sp ι h H env σ _ R E (WP.bnd w fun s h1 ι1 H1 R1 S1 w1 J hJ => ?_)
  refine ⟨fun i m σ H => m = s.items.length - i ∧ i ≤ s.items.length ∧ ∃ (ι : List Addr) (h : Hs) (env : En), Rel g.K H0 sp ι h H ∧ Stp ι1 H1 ι H ∧ EnvR g.K ι H env σ ∧ WP g H0 sp W ι H (forN fg ft s (s.items.drop i) env h) (PostS g.K Z), ⟨_, rfl, Nat.zero_le _, ι1, h1, env, R1, Stp.refl _ _, E.mono S1, w1⟩, ?_⟩
  rintro i m σ H ⟨rfl, hle, ι, h, env, R, S, E, w⟩
  by_cases hlt : i < s.items.length
  · rw [List.drop_eq_getElem_cons hlt] at w
    unfold forN at w
    obtain ⟨hgood, w⟩ := ifC w
    obtain ⟨hgo, hy⟩ := (hJ ι h H R S hgood).1 i hlt
    refine .inr ⟨hgo, fun σ' H' => ∃ (ι : List Addr) (h : Hs) (env : En), Rel g.K H0 sp ι h H' ∧ Stp ι1 H1 ι H' ∧ EnvR g.K ι H' env σ' ∧ WP g H0 sp W ι H' (forN fg ft s (s.items.drop (i + 1)) env h) (PostS g.K Z), fun σ' H' x => ⟨s.items.length - (i + 1), by omega, rfl, hlt, x⟩, fun x H' yl => ?_⟩
    obtain ⟨d, hd, ⟨R', S'⟩, q⟩ := hy x H' yl
    have hd' : s.items[i] = d := by
      have := (List.getElem?_eq_some_iff.mp hd).2
      exact this
    rw [hd'] at w
    refine hg H0 sp ι h H' env σ d x _ R' (E.mono S') q (WP.bnd (w.step S') fun e h2 ι2 H2 R2 S2 w2 σ2 E2 => ?_)
    refine hb H0 sp ι2 h2 H2 e σ2 _ R2 E2 (WP.bnd w2 fun fl h3 ι3 H3 R3 S3 w3 => ?_)
    have SS : Stp ι1 H1 ι3 H3 := ((S.trans S').trans S2).trans S3
    cases fl with
    | nx e2 => exact fun σ3 E3 => ⟨ι3, h3, e2, R3, SS, E3, w3⟩
    | ct e2 => exact fun σ3 E3 => ⟨ι3, h3, e2, R3, SS, E3, w3⟩
    | bk e2 => exact fun σ3 E3 => w3.here R3 σ3 E3
    | rt d2 => exact w3.here R3
  · have e : i = s.items.length := by omega
    subst e
    rw [List.drop_length] at w
    unfold forN at w
    obtain ⟨hgood, w⟩ := ifC w
    exact .inl ⟨(hJ ι h H R S hgood).2, w.here R σ E⟩

/-! ### comprehensions -/
open Classical in
noncomputable def lcN (fg : FG) (fc : FT) (fe : FE) (s : Src) (n : Nat) (env : En) : List D → Hs → R Unit
  | [], h => if s.good h then .ok () h else .no
  | d :: r, h => if s.good h then (fg d env h).bnd fun e h1 => (fc e h1).bnd fun b h2 => if b = true then (fe e h2).bnd fun y h3 => match h3[n]? with
        | some (.lst acc) => if acc.length < 16777216 then lcN fg fc fe s n env r (h3.set n (.lst (acc ++ [y]))) else .no
        | _ => .no
      else lcN fg fc fe s n env r h2
    else .no
noncomputable def fLc (fi : FI) (fg : FG) (fc : FT) (fe : FE) (vs : List Nat) : FE := fun env h => (fi env h).bnd fun s h1 => (lcN fg fc fe s h1.length (wipeE env vs) s.items (h1 ++ [.lst []])).bnd fun _ h2 => .ok (.ref h1.length) h2
def OnlyG (tg : TG) (vs : List Nat) : Prop := ∀ (v : V) (σ : L2.St) (H : Hp) (Q : L2.St → Hp → Prop), tg v σ H Q → tg v σ H fun σ' H' => wipe σ' vs = wipe σ vs ∧ Q σ' H'
def OnlyGs (tg : TGs) (vs : List Nat) : Prop := ∀ (us : List V) (σ : L2.St) (H : Hp) (Q : L2.St → Hp → Prop), tg us σ H Q → tg us σ H fun σ' H' => wipe σ' vs = wipe σ vs ∧ Q σ' H'
end
end PF
namespace PF
open PySem PySem.Spec PyProof.Rows L2
section
variable {σ : L2.St}
theorem wipe_set {i : Nat} {o : Option V} : ∀ {vs : List Nat}, i ∈ vs → wipe (σ.set i o) vs = wipe σ vs
  | [], h => by cases h
  | v :: vs, h => by
    by_cases hv : i ∈ vs
    · unfold wipe; rw [wipe_set hv]
    · have e : i = v := by
        rcases List.mem_cons.mp h with e | e
        · exact e
        · exact absurd e hv
      subst e
      have key : ∀ (vs : List Nat), i ∉ vs → wipe (σ.set i o) vs = (wipe σ vs).set i o := by
        intro vs
        induction vs with
        | nil => intro _; rfl
        | cons w ws ih =>
          intro hn
          have h1 : w ≠ i := fun e => hn (by rw [e]; exact List.mem_cons_self)
          unfold wipe
          rw [ih (fun m => hn (List.mem_cons_of_mem _ m)), List.set_comm _ _ h1.symm]
      unfold wipe
      rw [key vs hv, List.set_set]
theorem wipe_wipe : ∀ (vs : List Nat), wipe (wipe σ vs) vs = wipe σ vs := by
  intro vs
  refine List.ext_getElem? fun i => ?_
  by_cases h : i ∈ vs
  · have key : ∀ (τ : L2.St), τ.length = σ.length → (wipe τ vs)[i]? = if i < σ.length then some none else none := by
      intro τ hτ
      cases e : (wipe τ vs)[i]? with
      | none =>
        have h1 : (wipe τ vs).length ≤ i := List.getElem?_eq_none_iff.mp e
        rw [wipe_length, hτ] at h1
        rw [if_neg (by omega)]
      | some o =>
        have h1 := (List.getElem?_eq_some_iff.mp e).1
        rw [wipe_length, hτ] at h1
        rw [if_pos h1]
        cases o with
        | none => rfl
        | some x => exact absurd h (wipe_some e).2
    rw [key _ (wipe_length σ vs), key σ rfl]
  · rw [wipe_out h]
theorem EnvR.wiped' {K : PySem.W.Frag} {ι : List Addr} {H : Hp} {env : En} (vs : List Nat) (E : EnvR K ι H env σ) : EnvR K ι H (wipeE env vs) (L2.wipe σ vs) := by
  have E' := EnvR.wipe (ws := vs) E
  refine ⟨by rw [E'.1, wipe_length], fun i d q => ?_⟩
  obtain ⟨v, h1, h2⟩ := E'.2 i d q
  refine ⟨v, ?_, h2⟩
  rw [wipe_out]
  · exact h1
  · intro hm
    have key : ∀ (ws : List Nat) (env : En), (i ∈ ws ∨ ∀ d, env[i]? ≠ some (some d)) → ∀ d, (wipeE env ws)[i]? ≠ some (some d) := by
      intro ws
      induction ws with
      | nil =>
        intro env h
        rcases h with h | h
        · cases h
        · exact h
      | cons w ws ih =>
        intro env h
        unfold wipeE
        refine ih (env.set w none) ?_
        by_cases hw : i ∈ ws
        · exact .inl hw
        · refine .inr fun d e => ?_
          by_cases hiw : w = i
          · subst hiw
            have hl : w < env.length := by
              have := (List.getElem?_eq_some_iff.mp e).1
              simpa using this
            rw [List.getElem?_set_self hl] at e
            cases e
          · rw [List.getElem?_set_ne hiw] at e
            rcases h with h | h
            · rcases List.mem_cons.mp h with h | h
              · exact hiw h.symm
              · exact hw h
            · exact h d e
    exact key vs env (.inl hm) d q
end
theorem only_name {i : Nat} {vs : List Nat} (h : i ∈ vs) : OnlyG (gName i) vs := fun v σ H Q q => ⟨wipe_set h, q⟩
theorem only_nil {vs : List Nat} : OnlyGs gNil vs := fun us σ H Q q => ⟨q.1, rfl, q.2⟩
theorem only_cons {tg : TG} {tr : TGs} {vs : List Nat} (h : OnlyG tg vs) (hr : OnlyGs tr vs) (mono : ∀ v σ H (Q Q' : L2.St → Hp → Prop), (∀ σ H, Q σ H → Q' σ H) → tg v σ H Q → tg v σ H Q') : OnlyGs (gCons tg tr) vs := by
  rintro us σ H Q ⟨v, r, rfl, q⟩
  refine ⟨v, r, rfl, mono _ _ _ _ _ (fun σ1 H1 q1 => ?_) (h v σ H _ q)⟩
  have := hr r σ1 H1 Q q1.2
  rw [q1.1] at this
  exact this
theorem only_tup {K : PySem.W.Frag} {n : Nat} {tr : TGs} {vs : List Nat} (hr : OnlyGs tr vs) : OnlyG (gTup K n tr) vs := by
  rintro v σ H Q ⟨a, xs, e, p, hl, q⟩
  exact ⟨a, xs, e, p, hl, hr xs σ H Q q⟩
theorem mono_name (i : Nat) : ∀ (v : V) (σ : L2.St) (H : Hp) (Q Q' : L2.St → Hp → Prop), (∀ σ H, Q σ H → Q' σ H) → gName i v σ H Q → gName i v σ H Q' := fun _ _ _ _ _ k q => k _ _ q
section
variable {g : G} {W : Wx} {te ta tb : TE} {fe fa fb : FE} {tc : TT} {fc : FT} {tg : TG} {fg : FG} {wi : TI} {fi : FI}
theorem sim_yes : SimT g W tYes (fun _ h => .ok true h) := fun _ _ _ _ _ _ _ _ r _ w => w.here r
/-- the blocks let nothing out -/
abbrev W0 : Wx := fun _ _ _ _ => False
theorem WP.w0 {α : Type} {H0 : Hp} {sp ι : List Addr} {H : Hp} {r : R α} {P : α → Hs → List Addr → Hp → Prop} (hr : ∀ e v h, r ≠ .er e v h) (w : WP g H0 sp W ι H r P) : WP g H0 sp W0 ι H r P := by
  cases r with
  | ok a h => exact w
  | er e v h => exact absurd rfl (hr e v h)
  | no => exact w
theorem sim_lc {vs : List Nat} (hi : SimI g W wi fi) (hg : SimG g W tg fg) (ho : OnlyG tg vs) (hc : SimT g W tc fc) (he : SimE g W te fe) : SimE g W (tLc wi tg tc te vs) (fLc fi fg fc fe vs) := by
  intro H0 sp ι h H env σ Q R E w
  refine hi H0 sp ι h H env σ _ R E (WP.bnd w fun s h1 ι1 H1 R1 S1 w1 J hJ Dl hD => ?_)
  have E1 := (E.mono S1).wiped' vs
  obtain ⟨R2, S2⟩ := R1.add (ho := .lst []) (o := .lst []) hD fun _ => ⟨[], upd_same, rfl⟩
  have n1 : (ι1 ++ [Dl])[h1.length]? = some Dl := by rw [← R1.len]; simp
  generalize hι2 : ι1 ++ [Dl] = ι2 at *
  generalize hH2 : upd H1 Dl (.lst []) = H2 at *
  -- the end
  have fin : ∀ (ι : List Addr) (h : Hs) (H : Hp), Rel g.K H0 sp ι h H → Stp ι2 H2 ι H → WP g H0 sp W ι H (PF.R.ok () h) (fun _ h' ι' H' => WP g H0 sp W ι' H' (PF.R.ok (D.ref h1.length) h') fun d _ ι' H' => ∀ v, VR g.K ι' H' d v → Q v H') → Q (.ref Dl) H := by
    intro ι h H R S w
    refine (w.here R).here R (.ref Dl) ?_
    unfold VR
    exact ⟨Dl, rfl, S.pre _ _ n1⟩
  have w2 : WP g H0 sp W ι2 H2 (lcN fg fc fe s h1.length (wipeE env vs) s.items (h1 ++ [.lst []])) (fun _ h' ι' H' => WP g H0 sp W ι' H' (PF.R.ok (D.ref h1.length) h') fun d _ ι' H' => ∀ v, VR g.K ι' H' d v → Q v H') :=
    WP.bnd (w1.step S2) fun _ h' ι' H' _ _ w => w
  refine ⟨fun i m H => m = s.items.length - i ∧ i ≤ s.items.length ∧ ∃ (ι : List Addr) (h : Hs), Rel g.K H0 sp ι h H ∧ Stp ι2 H2 ι H ∧ WP g H0 sp W ι H (lcN fg fc fe s h1.length (wipeE env vs) (s.items.drop i) h) (fun _ h' ι' H' => WP g H0 sp W ι' H' (PF.R.ok (D.ref h1.length) h') fun d _ ι' H' => ∀ v, VR g.K ι' H' d v → Q v H'), ⟨_, rfl, Nat.zero_le _, ι2, _, R2, Stp.refl _ _, w2⟩, ?_⟩
  rintro i m H ⟨rfl, hle, ι, h, R, S, w⟩
  by_cases hlt : i < s.items.length
  · rw [List.drop_eq_getElem_cons hlt] at w
    unfold lcN at w
    obtain ⟨hgood, w⟩ := ifC w
    obtain ⟨hgo, hy⟩ := (hJ ι h H R (S2.trans S) hgood).1 i hlt
    refine .inr ⟨hgo, fun H' => ∃ (ι : List Addr) (h : Hs), Rel g.K H0 sp ι h H' ∧ Stp ι2 H2 ι H' ∧ WP g H0 sp W ι H' (lcN fg fc fe s h1.length (wipeE env vs) (s.items.drop (i + 1)) h) (fun _ h' ι' H' => WP g H0 sp W ι' H' (PF.R.ok (D.ref h1.length) h') fun d _ ι' H' => ∀ v, VR g.K ι' H' d v → Q v H'), fun H' x => ⟨s.items.length - (i + 1), by omega, rfl, hlt, x⟩, fun x H' yl => ?_⟩
    obtain ⟨d, hd, ⟨R', S'⟩, q⟩ := hy x H' yl
    have hd' : s.items[i] = d := (List.getElem?_eq_some_iff.mp hd).2
    rw [hd'] at w
    have E' := (E1.mono ((S2.trans S).trans S'))
    have key := hg H0 sp ι h H' (wipeE env vs) (wipe σ vs) d x (fun σ2 H2' => tc σ2 H2' fun b H3 => if b = true then te σ2 H3 fun y H4 => ∃ acc, H4 Dl = some (.lst acc) ∧ acc.length < sizeLine ∧ (∃ (ι : List Addr) (h : Hs), Rel g.K H0 sp ι h (upd H4 Dl (.lst (acc ++ [y]))) ∧ Stp ι2 H2 ι (upd H4 Dl (.lst (acc ++ [y]))) ∧ WP g H0 sp W ι (upd H4 Dl (.lst (acc ++ [y]))) (lcN fg fc fe s h1.length (wipeE env vs) (s.items.drop (i + 1)) h) (fun _ h' ι' H' => WP g H0 sp W ι' H' (PF.R.ok (D.ref h1.length) h') fun d _ ι' H' => ∀ v, VR g.K ι' H' d v → Q v H'))
      else (∃ (ι : List Addr) (h : Hs), Rel g.K H0 sp ι h H3 ∧ Stp ι2 H2 ι H3 ∧ WP g H0 sp W ι H3 (lcN fg fc fe s h1.length (wipeE env vs) (s.items.drop (i + 1)) h) (fun _ h' ι' H' => WP g H0 sp W ι' H' (PF.R.ok (D.ref h1.length) h') fun d _ ι' H' => ∀ v, VR g.K ι' H' d v → Q v H'))) R' E' q (WP.bnd (w.step S') fun e h2 ι3 H3 R3 S3 w3 σ2 Eσ => ?_)
    · have := ho x (wipe σ vs) H' _ key
      rw [wipe_wipe] at this
      exact this
    · refine hc H0 sp ι3 h2 H3 e σ2 _ R3 Eσ (WP.bnd w3 fun b h3 ι4 H4 R4 S4 w4 => ?_)
      have SS4 : Stp ι2 H2 ι4 H4 := ((S.trans S').trans S3).trans S4
      cases b with
      | false =>
        rw [if_neg Bool.false_ne_true] at w4 ⊢
        exact ⟨ι4, h3, R4, SS4, w4⟩
      | true =>
        rw [if_pos rfl] at w4 ⊢
        refine he H0 sp ι4 h3 H4 e σ2 _ R4 (Eσ.mono S4) (WP.bnd w4 fun y h4 ι5 H5 R5 S5 w5 vy qy => ?_)
        have SS5 := SS4.trans S5
        cases hh : h4[h1.length]? with
        | none => simp only [hh] at w5; exact w5.elim
        | some o =>
          cases o with
          | dct b => simp only [hh] at w5; exact w5.elim
          | lst acc =>
            simp only [hh] at w5
            obtain ⟨hl, w5⟩ := ifN w5
            obtain ⟨a, e1, us, e2, r⟩ := R5.ob _ _ hh
            have ea := SS5.pre _ _ n1
            rw [e1] at ea; cases ea
            have T := putL R5 e1 (r.app (.one qy))
            exact ⟨us, e2, by rw [← r.length, sizeLine_eq]; exact hl, ι5, _, T.1, SS5.trans T.2, w5.step T.2⟩
  · have e : i = s.items.length := by omega
    subst e
    rw [List.drop_length] at w
    unfold lcN at w
    obtain ⟨hgood, w⟩ := ifC w
    exact .inl ⟨(hJ ι h H R (S2.trans S) hgood).2, fin ι h H R S w⟩

/-! ### sources -/
/-- a list, a tuple, a text -/
def srcOf (h : Hs) (x : D) : Option Src := match x with
  | .tup ds => some ⟨ds, []⟩
  | .str s => some ⟨s.map fun c => .str [c], []⟩
  | .lst ds => some ⟨ds, []⟩
  | .ref n => match h[n]? with
    | some (.lst ds) => some ⟨ds, [(n, ds)]⟩
    | _ => none
  | _ => none
def fIter (fe : FE) : FI := fun env h => (fe env h).bnd fun x h1 => match srcOf h1 x with
  | some s => .ok s h1
  | none => .no
def uIter (K : PySem.W.Frag) (te : TE) : TI := fun σ H R => iList K te σ H R ∨ iTup K te σ H R ∨ iStr te σ H R
theorem pi_or {X : Cx} {tg iter : Expr} {w1 w2 : TI} (h1 : PI X tg iter w1) (h2 : PI X tg iter w2) : PI X tg iter fun σ H R => w1 σ H R ∨ w2 σ H R := ⟨fun pins s σ H R I h => h.elim (h1.run pins s σ H R I) (h2.run pins s σ H R I)⟩
theorem pi_u {X : Cx} {tg e : Expr} {te : TE} (he : PE X e te) : PI X tg e (uIter X.K te) := pi_or (pi_list he) (pi_or (pi_tup he) (pi_str he))
theorem wk_list {K : PySem.W.Frag} {H0 : Hp} {sp ι : List Addr} {H : Hp} {a : Addr} {ds : List D} {vs : List V} (na : a ∉ ι) (p : H a = some (.lst vs)) (r : VRs K ι H ds vs) : Wk K H0 sp (Itl K a) ⟨ds, []⟩ ι H := by
  intro ι1 h1 H1 R1 S1 _
  have p1 := (S1.keep _ _ p na).1
  have r1 := VRs.mono S1 _ _ r
  refine ⟨fun i hi => ⟨⟨vs, vs[i]'(by rw [← r.length]; exact hi), SqL.of p1, by simp⟩, fun x H' y => ?_⟩, ⟨vs, SqL.of p1, by rw [← r.length]; exact Nat.le_refl _⟩⟩
  obtain ⟨rfl, y2⟩ := y
  have e := y2 vs (SqL.of p1)
  obtain ⟨d, h2, q⟩ := r1.back e
  exact ⟨d, h2, ⟨R1, Stp.refl _ _⟩, q⟩
theorem wk_ref {K : PySem.W.Frag} {H0 : Hp} {sp ι : List Addr} {H : Hp} {a : Addr} {n : Nat} {ds : List D} (hn : ι[n]? = some a) : Wk K H0 sp (Itl K a) ⟨ds, [(n, ds)]⟩ ι H := by
  intro ι1 h1 H1 R1 S1 good
  have e0 := good (n, ds) (by simp)
  obtain ⟨b, e1, vs, p1, r1⟩ := R1.ob _ _ e0
  rw [S1.pre _ _ hn] at e1; cases e1
  refine ⟨fun i hi => ⟨⟨vs, vs[i]'(by rw [← r1.length]; exact hi), SqL.of p1, by simp⟩, fun x H' y => ?_⟩, ⟨vs, SqL.of p1, by rw [← r1.length]; exact Nat.le_refl _⟩⟩
  obtain ⟨rfl, y2⟩ := y
  have e := y2 vs (SqL.of p1)
  obtain ⟨d, h2, q⟩ := r1.back e
  exact ⟨d, h2, ⟨R1, Stp.refl _ _⟩, q⟩
theorem wk_tup {K : PySem.W.Frag} {H0 : Hp} {sp ι : List Addr} {H : Hp} {a : Addr} {ds : List D} {vs : List V} (p : SqT K H a vs) (r : VRs K ι H ds vs) : Wk K H0 sp (Itt K a) ⟨ds, []⟩ ι H := by
  intro ι1 h1 H1 R1 S1 _
  have p1 := sqT_step S1 p
  have r1 := VRs.mono S1 _ _ r
  refine ⟨fun i hi => ⟨⟨vs, vs[i]'(by rw [← r.length]; exact hi), p1, by simp⟩, fun x H' y => ?_⟩, ⟨vs, p1, by rw [← r.length]; exact Nat.le_refl _⟩⟩
  obtain ⟨rfl, y2⟩ := y
  have e := y2 vs p1
  obtain ⟨d, h2, q⟩ := r1.back e
  exact ⟨d, h2, ⟨R1, Stp.refl _ _⟩, q⟩
theorem wk_str {K : PySem.W.Frag} {H0 : Hp} {sp ι : List Addr} {H : Hp} {s : List Nat} (hc : ∀ c ∈ s, c < 1114112) : Wk K H0 sp (Its (mk s)) ⟨s.map fun c => .str [c], []⟩ ι H := by
  intro ι1 h1 H1 R1 S1 _
  have len : (mk s).cps.size = s.length := by simp [mk]
  refine ⟨fun i hi => ⟨walk_str.goes i H1 (by rw [len]; simpa using hi) trivial, fun x H' y => ?_⟩, ?_⟩
  · have hi' : i < s.length := by simpa using hi
    obtain ⟨rfl, c, e1, rfl⟩ := walk_str.yields i H1 x H' (by rw [len]; exact hi') trivial y
    have e2 : s[i]? = some c := by simpa [mk] using e1
    refine ⟨.str [c], by rw [List.getElem?_map, e2]; rfl, ⟨R1, Stp.refl _ _⟩, .strI (by simp) fun c' hc' => ?_⟩
    have : c' = c := by simpa using hc'
    rw [this]; exact hc c (List.mem_of_getElem? e2)
  · have := (walk_str (z := mk s)).stops H1 trivial
    rw [len] at this
    simpa using this
theorem sim_iter (he : SimE g W te fe) : SimI g W (uIter g.K te) (fIter fe) := by
  intro H0 sp ι h H env σ Q R E w
  have out : ∀ (P : Prop), (P → uIter g.K te σ H Q) → P → uIter g.K te σ H Q := fun P f p => f p
  cases hx : fe env h with
  | no => unfold fIter at w; rw [hx] at w; exact w.elim
  | er e v hh =>
    refine .inl (he H0 sp ι h H env σ _ R E ?_)
    unfold fIter at w; rw [hx] at w ⊢; exact w
  | ok x h1 =>
    unfold fIter at w
    rw [hx] at w
    simp only [bnd_ok] at w
    cases hs : srcOf h1 x with
    | none => rw [hs] at w; exact w.elim
    | some s =>
      rw [hs] at w
      have w : WP g H0 sp W ι H (PF.R.ok s h1) (fun s _ ι' H' => ∀ J, Wk g.K H0 sp J s ι' H' → Q J H') := w
      cases x with
      | tup ds =>
        cases hs
        refine .inr (.inl (he H0 sp ι h H env σ _ R E ?_))
        rw [hx]
        intro ι1 H1 R1 S1 v q
        obtain ⟨a, vs, rfl, p, r⟩ := q.tupE
        exact ⟨a, rfl, ⟨vs, p⟩, w ι1 H1 R1 S1 _ (wk_tup p r)⟩
      | str s =>
        cases hs
        refine .inr (.inr (he H0 sp ι h H env σ _ R E ?_))
        rw [hx]
        intro ι1 H1 R1 S1 v q
        obtain ⟨rfl, _, hc⟩ := q.strE
        exact ⟨_, rfl, w ι1 H1 R1 S1 _ (wk_str hc)⟩
      | lst ds =>
        cases hs
        refine .inl (he H0 sp ι h H env σ _ R E ?_)
        rw [hx]
        intro ι1 H1 R1 S1 v q
        unfold VR at q
        obtain ⟨a, vs, rfl, p, na, r⟩ := q
        exact ⟨a, rfl, ⟨vs, SqL.of p⟩, w ι1 H1 R1 S1 _ (wk_list na p r)⟩
      | ref n =>
        refine .inl (he H0 sp ι h H env σ _ R E ?_)
        rw [hx]
        intro ι1 H1 R1 S1 v q
        unfold srcOf at hs
        cases hn : h1[n]? with
        | none => simp only [hn] at hs; cases hs
        | some o =>
          simp only [hn] at hs
          cases o with
          | dct b => cases hs
          | lst ds =>
            cases hs
            unfold VR at q
            obtain ⟨a, rfl, e2⟩ := q
            obtain ⟨b, e3, vs, p, r⟩ := R1.ob _ _ hn
            rw [e2] at e3; cases e3
            exact ⟨a, rfl, ⟨vs, SqL.of p⟩, w ι1 H1 R1 S1 _ (wk_ref e2)⟩
      | _ => cases hs
/-- range -/
def rangeL (lo : Int) (n : Nat) : List D := (List.range n).map fun i => .int (lo + (i : Nat))
def fRng1 (fa : FA) : FI := fun env h => (fa env h).bnd fun xs h1 => match xs with
  | [.int j] => if j.natAbs < 4611686018427387904 then .ok ⟨rangeL 0 j.toNat, []⟩ h1 else .no
  | _ => .no
def fRng2 (fa : FA) : FI := fun env h => (fa env h).bnd fun xs h1 => match xs with
  | [.int i, .int j] => if i.natAbs < 4611686018427387904 ∧ j.natAbs < 4611686018427387904 then .ok ⟨rangeL i (j - i).toNat, []⟩ h1 else .no
  | _ => .no
theorem wk_range {K : PySem.W.Frag} {H0 : Hp} {sp ι : List Addr} {H : Hp} {lo : Int} {n : Nat} : Wk K H0 sp (Itr lo n) ⟨rangeL lo n, []⟩ ι H := by
  intro ι1 h1 H1 R1 S1 _
  have len : (rangeL lo n).length = n := by simp [rangeL]
  refine ⟨fun i hi => ⟨by show i < n; rw [← len]; exact hi, fun x H' y => ?_⟩, by show n ≤ (rangeL lo n).length; rw [len]; exact Nat.le_refl _⟩
  obtain ⟨rfl, rfl⟩ := y
  have hi' : i < n := by rw [← len]; exact hi
  exact ⟨.int (lo + (i : Nat)), by simp [rangeL, hi'], ⟨R1, Stp.refl _ _⟩, rfl⟩
theorem sim_rng1 {ta : TA} {fa : FA} (ha : SimA g W ta fa) : SimI g W (iRng1 ta) (fRng1 fa) := by
  intro H0 sp ι h H env σ Q R E w
  refine ha H0 sp ι h H env σ _ R E (WP.bnd w fun xs h1 ι1 H1 R1 S1 w1 vs q => ?_)
  split at w1
  · obtain ⟨hj, w1⟩ := ifN w1
    obtain ⟨v, rfl, q1⟩ := q.oneE
    have e : v = .int _ := q1
    subst e
    exact ⟨_, rfl, by omega, by omega, w1.here R1 _ wk_range⟩
  · exact w1.elim
theorem sim_rng2 {ta : TA} {fa : FA} (ha : SimA g W ta fa) : SimI g W (iRng2 ta) (fRng2 fa) := by
  intro H0 sp ι h H env σ Q R E w
  refine ha H0 sp ι h H env σ _ R E (WP.bnd w fun xs h1 ι1 H1 R1 S1 w1 vs q => ?_)
  split at w1
  · obtain ⟨hj, w1⟩ := ifN w1
    obtain ⟨v, v', rfl, q1, q2⟩ := q.twoE
    have e : v = .int _ := q1
    have e' : v' = .int _ := q2
    subst e e'
    exact ⟨_, _, rfl, ⟨by omega, by omega, by omega, by omega⟩, w1.here R1 _ wk_range⟩
  · exact w1.elim
end
end PF
namespace PF
open PySem PySem.Spec PyProof.Rows L2

/-! ### defs: a function of data -/
inductive RP where
  | val (d : D) | obj (o : Ob) | er (e : Er) | no
def Ob.pur : Ob → Bool
  | .lst ds => purs ds
  | .dct kvs => purs (kvs.map Prod.fst) && purs (kvs.map Prod.snd)
def toP (n0 : Nat) (d : D) (h : Hs) : RP := if d.pur = true then .val d else match d with
  | .ref n => if n < n0 then .no else match h[n]? with
    | some o => if o.pur = true then .obj o else .no
    | none => .no
  | _ => .no
def runP (np N : Nat) (fs : FS) (ds : List D) : RP := if ds.length = np then match fs (ds.map some ++ List.replicate (N - np) none) [] with
    | .ok (.nx _) _ => .val .non
    | .ok (.rt d) h => toP 0 d h
    | .ok _ _ => .no
    | .er e _ _ => .er e
    | .no => .no
  else .no
def PostP (g : G) (H : Hp) (Q : VK) (E : XK) : RP → Prop
  | .val d => ∀ H' v, Same H H' → (∀ ι, VR g.K ι H' d v) → Q v H'
  | .obj o => ∀ H' a, Same H H' → H a = none → (∀ ι, ObR g.K ι H' o a) → Q (.ref a) H'
  | .er e => ∀ H' cls d, Same H H' → g.er e H' cls d → E cls d H'
  | .no => False
def SpP (g : G) (F : List D → RP) : Sp := fun vs H Q E => ∃ ds, VRs g.K [] H ds vs ∧ PostP g H Q E (F ds)
theorem ObR.pur {K : PySem.W.Frag} {ι ι' : List Addr} {H : Hp} {o : Ob} {a : Addr} (p : o.pur = true) (h : ObR K ι H o a) : ObR K ι' H o a := by
  cases o with
  | lst ds =>
    obtain ⟨vs, e, r⟩ := h
    exact ⟨vs, e, VRs.pur ds vs p r⟩
  | dct kvs =>
    obtain ⟨us, e, r1, r2, r3⟩ := h
    have p' : (purs (kvs.map Prod.fst) && purs (kvs.map Prod.snd)) = true := p
    rw [Bool.and_eq_true] at p'
    exact ⟨us, e, r1, VRs.pur _ _ p'.1 r2, VRs.pur _ _ p'.2 r3⟩
theorem env_start {K : PySem.W.Frag} {ι : List Addr} {H : Hp} {N : List Str} {ds : List D} {vs : List V} (q : VRs K ι H ds vs) (hl : ds.length ≤ N.length) : EnvR K ι H (ds.map some ++ List.replicate (N.length - ds.length) none) (L2.start N vs) := by
  have hlen := q.length
  refine ⟨by simp [L2.start, hlen], fun i d e => ?_⟩
  by_cases h : i < ds.length
  · rw [List.getElem?_append_left (by simpa using h), List.getElem?_map] at e
    cases e1 : ds[i]? with
    | none => rw [e1] at e; cases e
    | some x =>
      rw [e1] at e
      have : x = d := Option.some.inj (Option.some.inj e)
      subst this
      obtain ⟨v, h1, h2⟩ := q.get e1
      refine ⟨v, ?_, h2⟩
      unfold L2.start
      rw [List.getElem?_append_left (by rw [List.length_map, ← hlen]; exact h), List.getElem?_map, h1]; rfl
  · rw [List.getElem?_append_right (by simpa using h)] at e
    have := List.mem_of_getElem? e
    rw [List.mem_replicate] at this
    exact absurd this.2 (by simp)
theorem same_of {ι ι' : List Addr} {H H' : Hp} (s : Stp ι H ι' H') (e : ι = []) : Same H H' := fun a o h => (s.keep a o h (by rw [e]; simp)).1
theorem toP_fresh {K : PySem.W.Frag} {H0 : Hp} {sp ι0 ι : List Addr} {h : Hs} {H0' H : Hp} (R : Rel K H0 sp ι h H) (s : Stp ι0 H0' ι H) (hsp : ∀ a ∈ sp, a ∈ ι0) {n : Nat} {a : Addr} (hn : ι0.length ≤ n) (e : ι[n]? = some a) : H0 a = none := by
  rcases R.new a (List.mem_of_getElem? e) with z | z
  · exact z
  · obtain ⟨i, hi⟩ := List.getElem?_of_mem (hsp a z)
    have := getElem?_inj' R.nd (s.pre i a hi) e
    have hl := (List.getElem?_eq_some_iff.mp hi).1
    omega
section
variable {P : Program} {w : World} {g : G} {mg : Str → Option Value} {base : Heap}
theorem def_ok {x qual : Str} {st : Stmt} {f : Addr} {fd : FuncData} {N ps : List Str} {k : Nat} {fs : FS} {F : List D → RP} (FF : Fun g.K x qual st f fd) (S : FnScope N ps (defScope st))
    (hb : ∀ (cdv : Value) (A : Around) (outer : List Env) (s : Shared) (H : Hp) (E : XK), Room k (A.deeper (envOfC qual (defScope st) s.heap.objs.size f cdv)) → ∃ t, PSs (cxOf CX0 P w g.K mg base N qual (defScope st) f cdv A outer s H E).nox (defBody st) t ∧ SimS g W0 t fs)
    (ref : ∀ ds, F ds ≠ .no → (runP ps.length N.length fs ds = F ds ∧ ∀ e, F ds ≠ .er e)) : FnOk P w g.K mg base CX0 (k + 1) f fd ps (SpP g F) := by
  have hlen : ∀ ds, F ds ≠ .no → ds.length = ps.length := fun ds h => by
    have e := (ref ds h).1
    unfold runP at e
    by_cases c : ds.length = ps.length
    · exact c
    · rw [if_neg c] at e; exact absurd e.symm h
  have hps : ps.length ≤ N.length := by have := congrArg List.length S.pre; rw [List.length_take] at this; omega
  have notno : ∀ {ds H Q E}, PostP g H Q E (F ds) → F ds ≠ .no := fun {ds H Q E} h e => by rw [e] at h; exact h
  refine FF.ok S (fun vs H Q E h => ?_) (fun cdv A outer s H vs Q E hr h => ?_)
  · obtain ⟨ds, q, m⟩ := h
    rw [← q.length]
    exact hlen ds (notno m)
  · obtain ⟨t, ht, sim⟩ := hb cdv A outer s H E hr
    refine ⟨t, ht, ?_⟩
    obtain ⟨ds, q, m⟩ := h
    have hn := notno m
    have hl := hlen ds hn
    obtain ⟨e, ne⟩ := ref ds hn
    have R0 : Rel g.K H [] [] [] H := ⟨rfl, List.nodup_nil, fun n o z => by simp at z, fun a o z _ => z, fun a z => by simp at z, fun a z => by simp at z⟩
    have E0 := env_start (N := N) q (by omega)
    refine sim H [] [] [] H _ (L2.start N vs) _ R0 E0 ?_
    unfold runP at e
    rw [if_pos hl] at e
    rw [hl]
    cases hr : fs (ds.map some ++ List.replicate (N.length - ps.length) none) [] with
    | no => rw [hr] at e; exact absurd e.symm hn
    | er x v h1 => rw [hr] at e; exact absurd e.symm (ne x)
    | ok fl h1 =>
      rw [hr] at e
      cases fl with
      | nx e1 =>
        have e : RP.val .non = F ds := e
        rw [← e] at m
        exact fun ι' H' R' S' σ' _ => m H' .non (same_of S' rfl) fun ι => rfl
      | bk e1 => exact absurd e.symm hn
      | ct e1 => exact absurd e.symm hn
      | rt d =>
        have e : toP 0 d h1 = F ds := e
        rw [← e] at m
        intro ι' H' R' S' v qv
        unfold toP at m
        by_cases c : d.pur = true
        · rw [if_pos c] at m
          exact m H' v (same_of S' rfl) fun ι => VR.pur d v c qv
        · rw [if_neg c] at m
          cases d with
          | ref n =>
            simp only [Nat.not_lt_zero, if_false] at m
            cases ho : h1[n]? with
            | none => simp only [ho] at m; exact m.elim
            | some o =>
              simp only [ho] at m
              by_cases c2 : o.pur = true
              · rw [if_pos c2] at m
                obtain ⟨a, e1, q1⟩ := R'.ob n o ho
                unfold VR at qv
                obtain ⟨a', rfl, e2⟩ := qv
                rw [e1] at e2; cases e2
                exact m H' a (same_of S' rfl) (toP_fresh R' S' (fun a z => by simp at z) (Nat.zero_le n) e1) fun ι => q1.pur c2
              · rw [if_neg c2] at m; exact m.elim
          | _ => exact m.elim
variable {W : Wx}
/-- a call of a def that raises nothing -/
def fCall (F : List D → RP) (fa : FA) : FE := fun env h => (fa env h).bnd fun xs h1 => match dall (dref h1 6) xs with
  | some ds => match F ds with
    | .val d => .ok d h1
    | .obj o => .ok (.ref h1.length) (h1 ++ [o])
    | .er _ => .no
    | .no => .no
  | none => .no
theorem sim_call {F : List D → RP} {ta : TA} {fa : FA} {E : XK} (ha : SimA g W ta fa) : SimE g W (tCall (SpP g F) [] E ta) (fCall F fa) := by
  intro H0 sp ι h H env σ Q R E1 w
  refine ha H0 sp ι h H env σ _ R E1 (WP.bnd w fun xs h1 ι1 H1 R1 S1 w1 vs q => ?_)
  rw [List.append_nil]
  cases hd : dall (dref h1 6) xs with
  | none => rw [hd] at w1; exact w1.elim
  | some ds =>
    rw [hd] at w1
    have q' : VRs g.K [] H1 ds vs := dall_ok (fun d v d' qd e => dref_nil R1 qd e) q hd
    refine ⟨ds, q', ?_⟩
    cases hF : F ds with
    | no => simp only [hF] at w1; exact w1
    | er e => simp only [hF] at w1; exact w1.elim
    | val d =>
      simp only [hF] at w1
      exact fun H' v sm qv => w1.at (R1.grow sm) v (qv _)
    | obj o =>
      simp only [hF] at w1
      intro H' a sm ha qo
      obtain ⟨R2, S2⟩ := R1.adopt (o := o) sm ha fun _ => qo _
      refine w1.at ⟨R2, S2⟩ (.ref a) ?_
      unfold VR
      exact ⟨a, rfl, by rw [← R1.len]; simp⟩

end
end PF
namespace PF
open PySem PySem.Spec PyProof.Rows L2
/-! ### defs that draw from the bag, their first argument -/
structure Bn where
  a : Int
  s : Int
  p : Int
inductive RB where
  | val (d : D) (b : Bn) | obj (o : Ob) (b : Bn) | no
def bagO (b : Bn) (m : Nat) : Ob := .lst [.int b.a, .int b.s, .int b.p, .ref m]
def inz : List D → Option (List Int)
  | [] => some []
  | .int i :: r => match inz r with
    | some l => some (i :: l)
    | none => none
  | _ => none
@[simp] theorem inz_map (l : List Int) : inz (l.map D.int) = some l := by
  induction l with
  | nil => rfl
  | cons a r ih => simp [inz, ih]
theorem inz_eq : ∀ {ds : List D} {l : List Int}, inz ds = some l → ds = l.map D.int
  | [], l, e => by cases e; rfl
  | d :: ds, l, e => by
    cases d with
    | int i =>
      unfold inz at e
      cases h : inz ds with
      | none => rw [h] at e; cases e
      | some l' => rw [h] at e; cases e; rw [inz_eq h]; rfl
    | _ => cases e
def rdB (n : Nat) (h : Hs) : Option (Bn × Nat × List Int) := match h[n]? with
  | some (.lst [.int a, .int s, .int p, .ref m]) => match h[m]? with
    | some (.lst ds) => match inz ds with
      | some cs => some (⟨a, s, p⟩, m, cs)
      | none => none
    | _ => none
  | _ => none
theorem rdB_ok {n m : Nat} {h : Hs} {b : Bn} {cs : List Int} (e : rdB n h = some (b, m, cs)) : h[n]? = some (bagO b m) ∧ h[m]? = some (.lst (cs.map D.int)) := by
  unfold rdB at e
  split at e
  · rename_i a s p m' h1
    split at e
    · rename_i ds h2
      split at e
      · rename_i cs' h3
        cases e
        exact ⟨h1, by rw [h2, inz_eq h3]⟩
      · cases e
    · cases e
  · cases e
def PostB (g : G) (H : Hp) (β c : Addr) (Q : VK) : RB → Prop
  | .val d b => ∀ H' v, (∀ a o, H a = some o → a ≠ β → H' a = some o) → H' β = some (.lst [.int b.a, .int b.s, .int b.p, .ref c]) → (∀ ι, VR g.K ι H' d v) → Q v H'
  | .obj o b => ∀ H' x, (∀ a o, H a = some o → a ≠ β → H' a = some o) → H' β = some (.lst [.int b.a, .int b.s, .int b.p, .ref c]) → H x = none → (∀ ι, ObR g.K ι H' o x) → Q (.ref x) H'
  | .no => False
def SpB (g : G) (F : List D → List Int → Bn → RB) : Sp := fun vs H Q E => ∃ (β c : Addr) (us : List V) (ds : List D) (cs : List Int) (b : Bn), vs = .ref β :: us ∧ H β = some (.lst [.int b.a, .int b.s, .int b.p, .ref c]) ∧ H c = some (.lst (cs.map V.int)) ∧ c ≠ β ∧
  VRs g.K [β, c] H ds us ∧ PostB g H β c Q (F ds cs b)
def toB (cs : List Int) (r : RP) (h : Hs) : RB := match rdB 0 h with
  | some (b, 1, cs') => if cs' = cs then match r with
    | .val d => .val d b
    | .obj o => .obj o b
    | _ => .no
    else .no
  | _ => .no
def runB (np N : Nat) (fs : FS) (ds : List D) (cs : List Int) (b : Bn) : RB := if ds.length + 1 = np then match fs ((D.ref 0 :: ds).map some ++ List.replicate (N - np) none) [bagO b 1, .lst (cs.map D.int)] with
    | .ok (.nx _) h => toB cs (.val .non) h
    | .ok (.rt d) h => toB cs (toP 2 d h) h
    | _ => .no
  else .no
def mask (h : Hs) (n m : Nat) : Hs := (h.set n (.dct [])).set m (.dct [])
def setB (h : Hs) (n m : Nat) (b : Bn) : Hs := h.set n (bagO b m)
def fCallB (F : List D → List Int → Bn → RB) (fa : FA) : FE := fun env h => (fa env h).bnd fun xs h1 => match xs with
  | .ref n :: r => match rdB n h1 with
    | some (b, m, cs) => if n ≠ m then match dall (dref (mask h1 n m) 6) r with
      | some ds => match F ds cs b with
        | .val d b' => .ok d (setB h1 n m b')
        | .obj o b' => .ok (.ref h1.length) (setB h1 n m b' ++ [o])
        | .no => .no
      | none => .no
      else .no
    | none => .no
  | _ => .no
section
variable {K : PySem.W.Frag} {H0 : Hp} {sp ι : List Addr} {h : Hs} {H H' : Hp}
theorem Rel.putG (r : Rel K H0 sp ι h H) {n : Nat} {a : Addr} {o : Ob} (hn : ι[n]? = some a) (k : ∀ b o, H b = some o → b ≠ a → H' b = some o) (new : Stp ι H ι H' → ObR K ι H' o a) : Rel K H0 sp ι (h.set n o) H' ∧ Stp ι H ι H' := by
  obtain ⟨u, hu, nt⟩ := r.inH hn
  have ma : a ∈ ι := List.mem_of_getElem? hn
  have s : Stp ι H ι H' := ⟨fun _ _ e => e, fun b x q m => ⟨k b x q (fun z => m (by rw [z]; exact ma)), m⟩, fun b x q t => k b x q (fun z => by rw [z, hu] at q; cases q; exact nt t)⟩
  refine ⟨⟨by simp [r.len], r.nd, fun m x q => ?_, fun b x q m => ?_, r.new, r.spin⟩, s⟩
  · by_cases hm : m = n
    · subst hm
      have hl : m < h.length := by rw [← r.len]; exact (List.getElem?_eq_some_iff.mp hn).1
      rw [List.getElem?_set_self hl] at q
      cases q
      exact ⟨a, hn, new s⟩
    · rw [List.getElem?_set_ne (Ne.symm hm)] at q
      obtain ⟨b, h1, h2⟩ := r.ob m x q
      have hb : b ≠ a := fun z => by
        subst z
        exact hm (getElem?_inj' r.nd h1 hn)
      obtain ⟨u', hu', _⟩ := h2.there
      exact ⟨b, h1, h2.mono s ((k b u' hu' hb).trans hu'.symm)⟩
  · exact k b x (r.base b x q m) (fun z => m (by rw [z]; exact ma))
theorem bag_at (r : Rel K H0 sp ι h H) {n m : Nat} {b : Bn} {cs : List Int} (h1 : h[n]? = some (bagO b m)) (h2 : h[m]? = some (.lst (cs.map D.int))) :
    ∃ β c, ι[n]? = some β ∧ ι[m]? = some c ∧ H β = some (.lst [.int b.a, .int b.s, .int b.p, .ref c]) ∧ H c = some (.lst (cs.map V.int)) := by
  obtain ⟨β, e1, vs, e2, q⟩ := r.ob n _ h1
  obtain ⟨c, e3, us, e4, q2⟩ := r.ob m _ h2
  obtain ⟨v1, r1, rfl, p1, q⟩ := VRs.cons_iff.mp q
  obtain ⟨v2, r2, rfl, p2, q⟩ := VRs.cons_iff.mp q
  obtain ⟨v3, v4, rfl, p3, p4⟩ := q.twoE
  have x1 : v1 = .int b.a := p1
  have x2 : v2 = .int b.s := p2
  have x3 : v3 = .int b.p := p3
  unfold VR at p4
  obtain ⟨c', x4, e5⟩ := p4
  rw [e3] at e5; cases e5
  subst x1 x2 x3 x4
  rw [VRs.ints q2] at e4
  exact ⟨β, c, e1, e3, e2, e4⟩
theorem bag_ob {m : Nat} {b : Bn} {β c : Addr} (hm : ι[m]? = some c) (e : H β = some (.lst [.int b.a, .int b.s, .int b.p, .ref c])) : ObR K ι H (bagO b m) β :=
  ⟨_, e, .cons rfl (.cons rfl (.cons rfl (.one (by unfold VR; exact ⟨c, rfl, hm⟩))))⟩
end
section
variable {P : Program} {w : World} {g : G} {mg : Str → Option Value} {base : Heap} {W : Wx}
theorem sim_callB {F : List D → List Int → Bn → RB} {ta : TA} {fa : FA} {E : XK} (ha : SimA g W ta fa) : SimE g W (tCall (SpB g F) [] E ta) (fCallB F fa) := by
  intro H0 sp ι h H env σ Q R E1 w
  refine ha H0 sp ι h H env σ _ R E1 (WP.bnd w fun xs h1 ι1 H1 R1 S1 w1 vs q => ?_)
  rw [List.append_nil]
  split at w1
  · rename_i n r
    obtain ⟨v, us, rfl, qv, qr⟩ := VRs.cons_iff.mp q
    unfold VR at qv
    obtain ⟨β', rfl, e0⟩ := qv
    split at w1
    · rename_i b m cs eb
      obtain ⟨hnm, w1⟩ := ifN w1
      obtain ⟨g1, g2⟩ := rdB_ok eb
      obtain ⟨β, c, e1, e2, e3, e4⟩ := bag_at R1 g1 g2
      have hβ : β' = β := by rw [e1] at e0; exact (Option.some.inj e0).symm
      rw [hβ]
      have hcβ : c ≠ β := fun z => hnm (getElem?_inj' R1.nd e1 (by rw [← z]; exact e2))
      split at w1
      · rename_i ds hd
        have q' : VRs g.K [β, c] H1 ds us := dall_ok (fun d v d' qd e => dref_ok (fun a z => by
          rcases List.mem_cons.mp z with z | z
          · rw [z]; exact List.mem_of_getElem? e1
          · have : a = c := by simpa using z
            rw [this]; exact List.mem_of_getElem? e2) (fun k ds' e' => by
          have hk : k ≠ n ∧ k ≠ m ∧ h1[k]? = some (.lst ds') := by
            unfold mask at e'
            by_cases km : k = m
            · subst km
              have hl : k < (h1.set n (.dct [])).length := by
                have := (List.getElem?_eq_some_iff.mp e').1
                simpa using this
              rw [List.getElem?_set_self hl] at e'
              cases e'
            · rw [List.getElem?_set_ne (Ne.symm km)] at e'
              by_cases kn : k = n
              · subst kn
                have hl : k < h1.length := by
                  have := (List.getElem?_eq_some_iff.mp e').1
                  simpa using this
                rw [List.getElem?_set_self hl] at e'
                cases e'
              · rw [List.getElem?_set_ne (Ne.symm kn)] at e'
                exact ⟨kn, km, e'⟩
          obtain ⟨a, x1, vs', x2, x3⟩ := R1.ob k _ hk.2.2
          refine ⟨a, vs', x1, x2, x3, fun z => ?_⟩
          rcases List.mem_cons.mp z with z | z
          · exact hk.1 (getElem?_inj' R1.nd x1 (by rw [z]; exact e1))
          · have : a = c := by simpa using z
            exact hk.2.1 (getElem?_inj' R1.nd x1 (by rw [this]; exact e2))) 6 d v d' qd e) qr hd
        refine ⟨β, c, us, ds, cs, b, rfl, e3, e4, hcβ, q', ?_⟩
        split at w1
        · rename_i d b' hF
          rw [hF]
          intro H' v' kp eβ qv'
          exact w1.at (R1.putG e1 kp fun _ => bag_ob e2 eβ) v' (qv' _)
        · rename_i o b' hF
          rw [hF]
          intro H' x kp eβ hx qo
          obtain ⟨R2, S2⟩ := R1.putG (H' := fun a => if a = x then none else H' a) e1 (fun a o' ea hne => by
            have : a ≠ x := ne_of_none ea hx
            show (if a = x then none else H' a) = some o'
            rw [if_neg this]; exact kp a o' ea hne) (o := bagO b' m) fun _ => bag_ob e2 (by
            have : β ≠ x := ne_of_none e3 hx
            show (if β = x then none else H' β) = _
            rw [if_neg this]; exact eβ)
          obtain ⟨R3, S3⟩ := R2.adopt (H' := H') (p := x) (o := o) (fun a o' ea => by
            have ea : (if a = x then none else H' a) = some o' := ea
            by_cases hax : a = x
            · rw [if_pos hax] at ea; cases ea
            · rw [if_neg hax] at ea; exact ea) (by show (if x = x then none else H' x) = none; rw [if_pos rfl]) fun _ => qo _
          refine w1.at ⟨R3, S2.trans S3⟩ (.ref x) ?_
          unfold VR
          refine ⟨x, rfl, ?_⟩
          rw [← R1.len]; simp
        · exact w1.elim
      · exact w1.elim
    · exact w1.elim
  · exact w1.elim
theorem defB_ok {x qual : Str} {st : Stmt} {f : Addr} {fd : FuncData} {N ps : List Str} {k : Nat} {fs : FS} {F : List D → List Int → Bn → RB} (FF : Fun g.K x qual st f fd) (S : FnScope N ps (defScope st))
    (hb : ∀ (cdv : Value) (A : Around) (outer : List Env) (s : Shared) (H : Hp) (E : XK), Room k (A.deeper (envOfC qual (defScope st) s.heap.objs.size f cdv)) → ∃ t, PSs (cxOf CX0 P w g.K mg base N qual (defScope st) f cdv A outer s H E).nox (defBody st) t ∧ SimS g W0 t fs)
    (ref : ∀ ds cs b, F ds cs b ≠ .no → runB ps.length N.length fs ds cs b = F ds cs b) : FnOk P w g.K mg base CX0 (k + 1) f fd ps (SpB g F) := by
  have hlen : ∀ ds cs b, F ds cs b ≠ .no → ds.length + 1 = ps.length := fun ds cs b h => by
    have e := ref ds cs b h
    unfold runB at e
    by_cases c : ds.length + 1 = ps.length
    · exact c
    · rw [if_neg c] at e; exact absurd e.symm h
  have hps : ps.length ≤ N.length := by have := congrArg List.length S.pre; rw [List.length_take] at this; omega
  have notno : ∀ {ds cs b H β c Q}, PostB g H β c Q (F ds cs b) → F ds cs b ≠ .no := fun {ds cs b H β c Q} h e => by rw [e] at h; exact h
  refine FF.ok S (fun vs H Q E h => ?_) (fun cdv A outer s H vs Q E hr h => ?_)
  · obtain ⟨β, c, us, ds, cs, b, rfl, _, _, _, q, m⟩ := h
    rw [List.length_cons, ← q.length]
    exact hlen ds cs b (notno m)
  · obtain ⟨t, ht, sim⟩ := hb cdv A outer s H E hr
    refine ⟨t, ht, ?_⟩
    obtain ⟨β, c, us, ds, cs, b, rfl, e1, e2, hc, q, m⟩ := h
    have hn := notno m
    have hl := hlen ds cs b hn
    have e := ref ds cs b hn
    have R0 : Rel g.K H [β, c] [β, c] [bagO b 1, .lst (cs.map D.int)] H := by
      refine ⟨rfl, by simp [Ne.symm hc], fun n o z => ?_, fun a o z _ => z, fun a z => .inr z, fun a z => z⟩
      cases n with
      | zero => cases z; exact ⟨β, rfl, bag_ob rfl e1⟩
      | succ n =>
        cases n with
        | zero => cases z; exact ⟨c, rfl, _, e2, VRs.of_ints cs⟩
        | succ n => simp at z
    have q0 : VRs g.K [β, c] H (D.ref 0 :: ds) (.ref β :: us) := .cons (by unfold VR; exact ⟨β, rfl, rfl⟩) q
    have E0 := env_start (N := N) q0 (by simp; omega)
    refine sim H [β, c] [β, c] _ H _ (L2.start N (.ref β :: us)) _ R0 E0 ?_
    unfold runB at e
    rw [if_pos hl] at e
    have hl' : (D.ref 0 :: ds).length = ps.length := by simp [hl]
    rw [hl']
    have keep : ∀ {ι' H'}, Stp [β, c] H ι' H' → ∀ {h' : Hs} {b' : Bn} {cs' : List Int}, Rel g.K H [β, c] ι' h' H' → rdB 0 h' = some (b', 1, cs') → cs' = cs → (∀ a o, H a = some o → a ≠ β → H' a = some o) ∧ H' β = some (.lst [.int b'.a, .int b'.s, .int b'.p, .ref c]) := by
      intro ι' H' S' h' b' cs' R' er ecs
      obtain ⟨g1, g2⟩ := rdB_ok er
      obtain ⟨β1, c1, f1, f2, f3, f4⟩ := bag_at R' g1 g2
      have z1 := S'.pre 0 β rfl
      have z2 := S'.pre 1 c rfl
      rw [f1] at z1; cases z1
      rw [f2] at z2; cases z2
      refine ⟨fun a o ea hne => ?_, f3⟩
      by_cases hac : a = c
      · rw [hac, e2] at ea
        cases ea
        rw [hac, f4, ecs]
      · exact (S'.keep a o ea (by simp [hne, hac])).1
    cases hr : fs ((D.ref 0 :: ds).map some ++ List.replicate (N.length - ps.length) none) [bagO b 1, .lst (cs.map D.int)] with
    | no => rw [hr] at e; exact absurd e.symm hn
    | er x v h1 => rw [hr] at e; exact absurd e.symm hn
    | ok fl h1 =>
      rw [hr] at e
      have core : ∀ (r : RP), toB cs r h1 = F ds cs b → ∃ b' , rdB 0 h1 = some (b', 1, cs) ∧ ((∃ d, r = .val d ∧ F ds cs b = .val d b') ∨ ∃ o, r = .obj o ∧ F ds cs b = .obj o b') := by
        intro r er
        unfold toB at er
        split at er
        · rename_i b' cs' hb'
          by_cases hcs : cs' = cs
          · rw [if_pos hcs] at er
            cases r with
            | val d => exact ⟨b', by rw [hb', hcs], .inl ⟨d, rfl, er.symm⟩⟩
            | obj o => exact ⟨b', by rw [hb', hcs], .inr ⟨o, rfl, er.symm⟩⟩
            | er x => exact absurd er.symm hn
            | no => exact absurd er.symm hn
          · rw [if_neg hcs] at er; exact absurd er.symm hn
        · exact absurd er.symm hn
      cases fl with
      | nx e1' =>
        obtain ⟨b', hb', h2⟩ := core _ e
        rcases h2 with ⟨d, hd, hF⟩ | ⟨o, ho, _⟩
        · cases hd
          rw [hF] at m
          intro ι' H' R' S' σ' _
          obtain ⟨k1, k2⟩ := keep S' R' hb' rfl
          exact m H' .non k1 k2 fun ι => rfl
        · cases ho
      | bk e1' => exact absurd e.symm hn
      | ct e1' => exact absurd e.symm hn
      | rt d =>
        obtain ⟨b', hb', h2⟩ := core _ e
        intro ι' H' R' S' v qv
        obtain ⟨k1, k2⟩ := keep S' R' hb' rfl
        rcases h2 with ⟨d', hd, hF⟩ | ⟨o, ho, hF⟩
        · rw [hF] at m
          unfold toP at hd
          by_cases cp : d.pur = true
          · rw [if_pos cp] at hd
            cases hd
            exact m H' v k1 k2 fun ι => VR.pur d v cp qv
          · rw [if_neg cp] at hd
            split at hd
            · split at hd
              · cases hd
              · split at hd
                · split at hd <;> cases hd
                · cases hd
            · cases hd
        · rw [hF] at m
          unfold toP at ho
          by_cases cp : d.pur = true
          · rw [if_pos cp] at ho; cases ho
          · rw [if_neg cp] at ho
            split at ho
            · rename_i n
              by_cases c2 : n < 2
              · rw [if_pos c2] at ho; cases ho
              · rw [if_neg c2] at ho
                split at ho
                · rename_i o' ho'
                  by_cases c3 : o'.pur = true
                  · rw [if_pos c3] at ho
                    cases ho
                    obtain ⟨a, f1, q1⟩ := R'.ob n _ ho'
                    unfold VR at qv
                    obtain ⟨a', rfl, f2⟩ := qv
                    rw [f1] at f2; cases f2
                    exact m H' a k1 k2 (toP_fresh R' S' (fun a z => z) (by simp; omega) f1) fun ι => q1.pur c3
                  · rw [if_neg c3] at ho; cases ho
                · cases ho
            · cases ho
end
end PF
namespace PF
open PySem PySem.Spec PyProof.Rows L2
section
variable {X : Cx} {g : G} {W : Wx} {te ta : TE} {fe fa : FE}
theorem pe_gl {x : Str} {v : V} {pos : Pos} (h : ∃ u, X.mg x = some u ∧ L2.RelV v u) (hg : Gl X x := by rfl) (hd : (x == ("__debug__" : Str)) = false := by decide) : PE X (.Name x pos) (tC v) := by
  obtain ⟨u, h1, h2⟩ := h
  exact pe_glob hg h1 h2 hd
/-- in-place operators of ints and texts -/
def uIadd : R2 := fun x y H Q => rI0 (fun i j => .int (i + j)) x y H Q ∨ (fun x y H Q => ∃ i j, x = .str i ∧ y = .str j ∧ i.length + j.length ≤ sizeLine ∧ Q (.str (i ++ j)) H) x y H Q ∨ rExt2 x y H Q
theorem iop_uAdd : OpR X (inplaceOp .Add) uIadd := iop_add.or (iop_add_str.or iop_ext)
def iaddD : D → D → Hs → R D
  | .int i, .int j, h => .ok (.int (i + j)) h
  | .str s, .str t, h => if s.length + t.length ≤ 16777216 then .ok (.str (s ++ t)) h else .no
  | x, y, h => match own h x, lof h y with
    | some (n, ds), some es => if ds.length + es.length ≤ 16777216 then .ok x (h.set n (.lst (ds ++ es))) else .no
    | _, _ => .no
theorem sim_iadd : SimR2 g uIadd iaddD := by
  intro H0 sp ι h H x y vx vy W Q R qx qy w
  unfold iaddD at w
  split at w
  · exact .inl ⟨_, _, qx, qy, w.here R _ rfl⟩
  · obtain ⟨hl, w⟩ := ifN w
    obtain ⟨rfl, l1, c1⟩ := qx.strE
    obtain ⟨rfl, l2, c2⟩ := qy.strE
    refine .inr (.inl ⟨_, _, rfl, rfl, by rw [mk_len, mk_len]; exact szl hl, ?_⟩)
    rw [mk_app]
    exact w.here R _ (.strI (by simpa using hl) fun c hc => (List.mem_append.mp hc).elim (c1 c) (c2 c))
  · split at w
    · rename_i n ds es e1 e2
      obtain ⟨hl, w⟩ := ifN w
      obtain ⟨a, us, rfl, hn, p, r⟩ := own_ok R qx e1
      obtain ⟨b, ws, rfl, p2, r2⟩ := lof_ok R qy e2
      have T := putL R hn (r.app r2)
      exact .inr (.inr ⟨a, b, us, ws, rfl, rfl, p, p2, by rw [← r.length, ← r2.length]; exact szl hl, w.at T _ (VR.mono T.2 _ _ qx)⟩)
    · exact w.elim
theorem sim_isub : SimR2 g (rI0 fun i j => .int (i - j)) subD := sim_sub
/-- truth -/
def truD (x : D) (h : Hs) : R Bool := match x with
  | .non => .ok false h
  | .bl b => .ok b h
  | .int i => .ok (i != 0) h
  | .str s => .ok (!s.isEmpty) h
  | .tup ds => .ok (!ds.isEmpty) h
  | x => match lof h x with
    | some ds => .ok (!ds.isEmpty) h
    | none => .no
def fTru (fe : FE) : FT := fun env h => (fe env h).bnd fun x h1 => truD x h1
theorem isE {α β : Type} {l : List α} {m : List β} (h : l.length = m.length) : l.isEmpty = m.isEmpty := by
  cases l <;> cases m <;> first | rfl | (simp at h)
theorem sim_tru (he : SimE g W te fe) : SimT g W (fun σ H Q => te σ H fun x H' => ∃ k, TruV g.K x H' k ∧ Q k H') (fTru fe) := by
  intro H0 sp ι h H env σ Q R E w
  refine he H0 sp ι h H env σ _ R E (WP.bnd w fun x h1 ι1 H1 R1 S1 w1 v1 q1 => ?_)
  unfold truD at w1
  split at w1
  · have e : v1 = .non := q1
    subst e
    exact ⟨_, rfl, w1.here R1⟩
  · have e : v1 = .bl _ := q1
    subst e
    exact ⟨_, rfl, w1.here R1⟩
  · have e : v1 = .int _ := q1
    subst e
    exact ⟨_, rfl, w1.here R1⟩
  · rename_i s
    obtain ⟨rfl, l, _⟩ := q1.strE
    refine ⟨!s.isEmpty, ⟨by rw [mk_len]; exact szl l, ?_⟩, w1.here R1⟩
    rw [mk_len]
    cases s with
    | nil => rfl
    | cons a r =>
      show (!false) = _
      have : ((((a :: r).length : Nat) : Int) != 0) = true := by
        rw [bne_iff_ne]
        simp
        omega
      rw [this]; rfl
  · obtain ⟨a, vs, rfl, p, r⟩ := q1.tupE
    exact ⟨_, .inr (.inl ⟨vs, p, by rw [isE r.length]⟩), w1.here R1⟩
  · split at w1
    · rename_i ds e
      obtain ⟨a, vs, rfl, p, r⟩ := lof_ok R1 q1 e
      exact ⟨_, .inl ⟨vs, SqL.of p, by rw [isE r.length]⟩, w1.here R1⟩
    · exact w1.elim
def fYes : FT := fun _ h => .ok true h
/-! ### the new bag -/
def newB (ns : List Int) (h : Hs) : R D := if ns.length ≤ 63 then .ok (.ref (h.length + 1)) (h ++ [.lst ((ns.map fun i => if i < 0 then -i else i).map D.int)] ++ [bagO ⟨0, 1234567891, 0⟩ h.length]) else .no
def fNewB (fa : FA) : FE := fun env h => (fa env h).bnd fun xs h1 => match xs with
  | [.scr ns] => newB ns h1
  | _ => .no
def SpN (g : G) : Sp := fun vs H Q E => ∃ (a : Addr) (ns : List Int), vs = [.ref a] ∧ SqL g.K H a (ns.map V.int) ∧ ns.length ≤ 63 ∧ ∀ H' p c, Same H H' → H p = none → H c = none → p ≠ c →
  H' p = some (.lst [.int 0, .int 1234567891, .int 0, .ref c]) → H' c = some (.lst ((ns.map fun i => if i < 0 then -i else i).map V.int)) → Q (.ref p) H'
theorem scr_sq {K : PySem.W.Frag} {ι : List Addr} {H : Hp} {ns : List Int} {v : V} (q : VR K ι H (.scr ns) v) : ∃ a, v = .ref a ∧ SqL K H a (ns.map V.int) := by
  unfold VR at q
  obtain ⟨a, rfl, q⟩ := q
  refine ⟨a, rfl, ?_⟩
  rcases q with ⟨q, _⟩ | q | q
  · exact .inl q
  · rcases q with q | ⟨o, q⟩ <;> cases q
  · exact .inr q
theorem sim_newB {ta : TA} {fa : FA} {E : XK} (ha : SimA g W ta fa) : SimE g W (tCall (SpN g) [] E ta) (fNewB fa) := by
  intro H0 sp ι h H env σ Q R E1 w
  refine ha H0 sp ι h H env σ _ R E1 (WP.bnd w fun xs h1 ι1 H1 R1 S1 w1 vs q => ?_)
  rw [List.append_nil]
  split at w1
  · rename_i ns
    unfold newB at w1
    obtain ⟨hl, w1⟩ := ifN w1
    obtain ⟨v, rfl, q1⟩ := q.oneE
    obtain ⟨a, rfl, q2⟩ := scr_sq q1
    refine ⟨a, ns, rfl, q2, hl, fun H' p c sm hp hc hne ep ec => ?_⟩
    obtain ⟨R2, S2⟩ := R1.adopt (H' := fun b => if b = p then none else H' b) (p := c) (o := .lst ((ns.map fun i => if i < 0 then -i else i).map D.int)) (fun b o eb => by
      have : b ≠ p := ne_of_none eb hp
      show (if b = p then none else H' b) = some o
      rw [if_neg this]; exact sm b o eb) hc fun _ => ⟨_, by
        show (if c = p then none else H' c) = _
        rw [if_neg (Ne.symm hne)]; exact ec, VRs.of_ints _⟩
    obtain ⟨R3, S3⟩ := R2.adopt (H' := H') (p := p) (o := bagO ⟨0, 1234567891, 0⟩ h1.length) (fun b o eb => by
      have eb : (if b = p then none else H' b) = some o := eb
      by_cases hbp : b = p
      · rw [if_pos hbp] at eb; cases eb
      · rw [if_neg hbp] at eb; exact eb) (by show (if p = p then none else H' p) = none; rw [if_pos rfl]) fun s => bag_ob (m := h1.length) (s.pre _ _ (by rw [← R1.len]; simp)) ep
    refine w1.at ⟨R3, S2.trans S3⟩ (.ref p) ?_
    unfold VR
    exact ⟨p, rfl, by
      have : (ι1 ++ [c]).length = h1.length + 1 := by simp [R1.len]
      rw [← this]; simp⟩
  · exact w1.elim
end
section
variable {P : Program} {w : World} {g : G} {mg : Str → Option Value} {base : Heap} {W : Wx}
theorem defN_ok {x qual : Str} {st : Stmt} {f : Addr} {fd : FuncData} {N : List Str} {p0 : Str} {k : Nat} {fs : FS} (FF : Fun g.K x qual st f fd) (S : FnScope N [p0] (defScope st))
    (hb : ∀ (cdv : Value) (A : Around) (outer : List Env) (s : Shared) (H : Hp) (E : XK), Room k (A.deeper (envOfC qual (defScope st) s.heap.objs.size f cdv)) → ∃ t, PSs (cxOf CX0 P w g.K mg base N qual (defScope st) f cdv A outer s H E).nox (defBody st) t ∧ SimS g W0 t fs)
    (ref : ∀ ns : List Int, ns.length ≤ 63 → ∃ h n m, fs (([D.scr ns].map some) ++ List.replicate (N.length - 1) none) [] = .ok (.rt (.ref n)) h ∧ h[n]? = some (bagO ⟨0, 1234567891, 0⟩ m) ∧ h[m]? = some (.lst ((ns.map fun i => if i < 0 then -i else i).map D.int))) : FnOk P w g.K mg base CX0 (k + 1) f fd [p0] (SpN g) := by
  have hps : 1 ≤ N.length := by have := congrArg List.length S.pre; rw [List.length_take] at this; simp at this; omega
  refine FF.ok S (fun vs H Q E h => ?_) (fun cdv A outer s H vs Q E hr h => ?_)
  · obtain ⟨a, ns, rfl, _⟩ := h; rfl
  · obtain ⟨t, ht, sim⟩ := hb cdv A outer s H E hr
    refine ⟨t, ht, ?_⟩
    obtain ⟨a, ns, rfl, q, hl, fin⟩ := h
    obtain ⟨h1, n, m, e, g1, g2⟩ := ref ns hl
    have R0 : Rel g.K H [] [] [] H := ⟨rfl, List.nodup_nil, fun n o z => by simp at z, fun a o z _ => z, fun a z => by simp at z, fun a z => by simp at z⟩
    have q0 : VRs g.K [] H [D.scr ns] [.ref a] := .one (by
      unfold VR
      refine ⟨a, rfl, ?_⟩
      rcases q with q | q
      · exact .inl ⟨q, by simp⟩
      · exact .inr (.inr q))
    have E0 := env_start (N := N) q0 hps
    refine sim H [] [] [] H _ (L2.start N _) _ R0 E0 ?_
    rw [show ([D.scr ns].length) = 1 from rfl, e]
    intro ι' H' R' S' v qv
    obtain ⟨β, c, f1, f2, f3, f4⟩ := bag_at R' g1 g2
    unfold VR at qv
    obtain ⟨β', rfl, f5⟩ := qv
    have hβ : β' = β := by rw [f1] at f5; exact (Option.some.inj f5).symm
    rw [hβ]
    have z := toP_fresh R' S' (fun a z => z) (Nat.zero_le n) f1
    have z2 := toP_fresh R' S' (fun a z => z) (Nat.zero_le m) f2
    exact fin H' β c (same_of S' rfl) z z2 (fun e => by rw [e, f4] at f3; cases hn : ns with
      | nil => rw [hn] at f3; simp at f3
      | cons x r =>
        have := HO.lst.inj (Option.some.inj f3)
        cases r with
        | nil => rw [hn] at this; simp at this
        | cons x2 r =>
          cases r with
          | nil => rw [hn] at this; simp at this
          | cons x3 r =>
            cases r with
            | nil => rw [hn] at this; simp at this
            | cons x4 r => rw [hn] at this; simp at this) f3 f4
/-- the law's own contract -/
def SpL (g : G) : Sp := fun vs H Q _ => ∃ (a : Addr) (ns : List Int), vs = [.ref a] ∧ SqL g.K H a (ns.map V.int) ∧ ns.length ≤ 63 ∧ ∀ H', Q (.bl true) H'
theorem defL_ok {x qual : Str} {st : Stmt} {f : Addr} {fd : FuncData} {N : List Str} {p0 : Str} {k : Nat} {fs : FS} (FF : Fun g.K x qual st f fd) (S : FnScope N [p0] (defScope st))
    (hb : ∀ (cdv : Value) (A : Around) (outer : List Env) (s : Shared) (H : Hp) (E : XK), Room k (A.deeper (envOfC qual (defScope st) s.heap.objs.size f cdv)) → ∃ t, PSs (cxOf CX0 P w g.K mg base N qual (defScope st) f cdv A outer s H E).nox (defBody st) t ∧ SimS g W0 t fs)
    (ref : ∀ ns : List Int, ns.length ≤ 63 → ∃ h, fs (([D.scr ns].map some) ++ List.replicate (N.length - 1) none) [] = .ok (.rt (.bl true)) h) : FnOk P w g.K mg base CX0 (k + 1) f fd [p0] (SpL g) := by
  have hps : 1 ≤ N.length := by have := congrArg List.length S.pre; rw [List.length_take] at this; simp at this; omega
  refine FF.ok S (fun vs H Q E h => ?_) (fun cdv A outer s H vs Q E hr h => ?_)
  · obtain ⟨a, ns, rfl, _⟩ := h; rfl
  · obtain ⟨t, ht, sim⟩ := hb cdv A outer s H E hr
    refine ⟨t, ht, ?_⟩
    obtain ⟨a, ns, rfl, q, hl, fin⟩ := h
    obtain ⟨h1, e⟩ := ref ns hl
    have R0 : Rel g.K H [] [] [] H := ⟨rfl, List.nodup_nil, fun n o z => by simp at z, fun a o z _ => z, fun a z => by simp at z, fun a z => by simp at z⟩
    have q0 : VRs g.K [] H [D.scr ns] [.ref a] := .one (by
      unfold VR
      refine ⟨a, rfl, ?_⟩
      rcases q with q | q
      · exact .inl ⟨q, by simp⟩
      · exact .inr (.inr q))
    have E0 := env_start (N := N) q0 hps
    refine sim H [] [] [] H _ (L2.start N _) _ R0 E0 ?_
    rw [show ([D.scr ns].length) = 1 from rfl, e]
    intro ι' H' R' S' v qv
    have e2 : v = .bl true := qv
    rw [e2]
    exact fin H'
end
end PF
namespace PF
open PySem PySem.Spec PyProof.Rows L2
/-! ### the same rules with the part K of the heap named: a reading that stands in a comprehension must not name its block's context -/
section
variable {X : Cx}
theorem kAdd (K) (h : X.K = K := by rfl) : OpR X (binaryOp Operator.Add) (uAdd K) := h ▸ op_uAdd
theorem kMul (K) (h : X.K = K := by rfl) : OpR X (binaryOp Operator.Mult) (uMul K) := h ▸ op_uMul
theorem kEq (K) (hu : X.A.units + 64 < cLine) (h : X.K = K := by rfl) : OpR X (compareOp CmpOp.Eq) (rEqD K) := h ▸ op_eqD hu
theorem kNe (K) (hu : X.A.units + 64 < cLine) (h : X.K = K := by rfl) : OpR X (compareOp CmpOp.NotEq) (rNeD K) := h ▸ op_neD hu
theorem kIn (K) {k : Nat} (hu : Room k X.A) (h : X.K = K := by rfl) : OpR X (compareOp CmpOp.In) (uIn K) := h ▸ op_uIn hu
theorem kNotIn (K) {k : Nat} (hu : Room k X.A) (h : X.K = K := by rfl) : OpR X (compareOp CmpOp.NotIn) (uNotIn K) := h ▸ op_uNotIn hu
theorem kIx (K) (h : X.K = K := by rfl) : IxR X (rIx K) := h ▸ ix_seq
theorem kSl (K) (h : X.K = K := by rfl) : SlR X (uSl K) := h ▸ sl_u
theorem kLen (K) (h : X.K = K := by rfl) : CallR X (Value.builtin "len") (rLenU K) := h ▸ call_lenU
theorem kIsi (K) (h : X.K = K := by rfl) : CallR X (Value.builtin "isinstance") (rIsi K) := h ▸ call_isi
theorem kIsiT (K) (h : X.K = K := by rfl) : CallR X (Value.builtin "isinstance") (rIsiT K) := h ▸ call_isiT
theorem kTupOf (K) (h : X.K = K := by rfl) : CallR X (Value.type "tuple") fun xs H Q => ∃ p ys, xs = [V.ref p] ∧ ((SqL K H p ys ∧ ∀ (l : Addr), H l = none → Q (V.ref l) (upd H l (HO.tup ys))) ∨ SqT K H p ys ∧ Q (V.ref p) H) := h ▸ call_tuple_of
theorem kLstOf (K) (h : X.K = K := by rfl) : CallR X (Value.type "list") fun xs H Q => ∃ p ys, xs = [V.ref p] ∧ (SqL K H p ys ∨ SqT K H p ys) ∧ ∀ (l : Addr), H l = none → Q (V.ref l) (upd H l (HO.lst ys)) := h ▸ call_list_of
theorem kTru (K) {a : Expr} {ta : TE} (ha : PE X a ta) (he : ∀ whole, isTrue a X.env whole = (do let v ← whole; standAt a.pos; holding [v] (truthy v))) (h : X.K = K := by rfl) : PT X a (fun σ H Q => ta σ H fun x H' => ∃ k, TruV K x H' k ∧ Q k H') := h ▸ pt_truth ha he
theorem kIt (K) {tg e : Expr} {te : TE} (ha : PE X e te) (h : X.K = K := by rfl) : PI X tg e (uIter K te) := h ▸ pi_u ha
theorem kTup (K) {pos : Pos} {es : List Expr} {k : Nat} {t : TGs} {n : Nat} (hc : X.calm = true) (hs : PGs X es t) (h1 : (assignEach es X.env).length = n := by rfl) (h2 : List.findIdx? (fun x => x.fst) (assignEach es X.env) = none := by rfl) (h : X.K = K := by rfl) : PG X (Expr.Tuple es k pos) (gTup K n t) := h ▸ pg_tup hc hs h1 h2
theorem kZip (K) {e1 e2 : Expr} {ta : TA} {p p2 pos pos2 : Pos} (g1 : Gl X (Str.ofString "list")) (m1 : X.mg (Str.ofString "list") = none) (g2 : Gl X (Str.ofString "zip")) (m2 : X.mg (Str.ofString "zip") = none) (ha : PA X [e1, e2] ta) (hc : X.calm = true)
    (q1 : starEach [e1, e2] X.env = (false, eval e1 X.env) :: starEach [e2] X.env := by rfl) (q2 : ((backTo pos2 (starEach [e2] X.env)).any fun x => x.fst) = false := by rfl)
    (q3 : starEach [(Expr.Name (Str.ofString "zip") p2).Call [e1, e2] [] pos2] X.env = (false, eval ((Expr.Name (Str.ofString "zip") p2).Call [e1, e2] [] pos2) X.env) :: starEach [] X.env := by rfl)
    (q4 : ((backTo pos (starEach [] X.env)).any fun x => x.fst) = false := by rfl) (h : X.K = K := by rfl) :
    PE X ((Expr.Name (Str.ofString "list") p).Call [(Expr.Name (Str.ofString "zip") p2).Call [e1, e2] [] pos2] [] pos) (tLZ K ta) := h ▸ pe_listZip g1 m1 g2 m2 ha hc q1 q2 q3 q4
theorem kJoin (K) {o e : Expr} {to te : TE} {apos pos : Pos} (ho : PE X o to) (he : PE X e te) (q1 : starEach [e] X.env = [(false, eval e X.env)] := by rfl) (q2 : attributeBase o (Str.ofString "join") X.env (eval o X.env) = eval o X.env := by rfl) (q3 : (apos.endLine == pos.line) = true := by rfl) (h : X.K = K := by rfl) :
    PE X ((o.Attribute (Str.ofString "join") apos).Call [e] [] pos) (tM1 (fun x xs H Q => ∃ a p ys, x = V.str a ∧ xs = [V.ref p] ∧ (SqL K H p (List.map V.str ys) ∨ SqT K H p (List.map V.str ys)) ∧ (List.map (fun x => x.length) ys).sum + ys.length * a.length ≤ 16777216 ∧ Q (V.str (Txt.join a ys)) H) to te) := h ▸ pe_join ho he q1 q2 q3
/-- o[i] by values, as an augmented store reads it: a list, a tuple or a text -/
theorem get_seq (K) (hK : X.K = K := by rfl) : PGet X (rIx K) := by
  subst hK
  intro pins s σ H x y v u Q I rx ry h
  have hn := line63
  rcases h with h | h | h
  · obtain ⟨p, xs, i, z, rfl, rfl, hq, he, q⟩ := h
    cases rx
    obtain ⟨t, rfl⟩ := ry
    obtain ⟨its, r, pl, hz⟩ := I.list hq
    obtain ⟨j, h1, h2, h3, h4, h5⟩ := atI_get he
    obtain ⟨w, ew, rw'⟩ := r.get h2
    have hl := r.length
    have fin : EP X pins σ Q w s := ⟨z, H, I, rw', q⟩
    by_cases h0 : 0 ≤ i
    · have hj : i.toNat = j := by
        rw [seqIndex_of h0 h5] at h1
        exact Option.some.inj h1
      exact wpAny_getItem_list pl.isList h0 (by omega) (by rw [hj]; simpa using ew) fin
    · have hj : (i + (its.toArray.size : Int)).toNat = j := by
        rw [seqIndex_neg (by omega) h4] at h1
        rw [List.size_toArray, ← hl]
        exact Option.some.inj h1
      exact wpAny_getItem_list_neg pl.isList (by omega) (by rw [List.size_toArray] <;> omega) (by omega) (by rw [hj]; simpa using ew) fin
  · obtain ⟨p, xs, i, z, rfl, rfl, hq, he, q⟩ := h
    cases rx
    obtain ⟨t, rfl⟩ := ry
    obtain ⟨its, r, pl, hz⟩ := I.tuple hq
    obtain ⟨j, h1, h2, h3, h4, h5⟩ := atI_get he
    obtain ⟨w, ew, rw'⟩ := r.get h2
    have hl := r.length
    exact getItem_tuple (j := j) pl (by omega) (by omega) (by rw [List.size_toArray, ← hl]; exact h1) (by simpa using ew) ⟨z, H, I, rw', q⟩
  · obtain ⟨z, i, c, rfl, rfl, hz, he, q⟩ := h
    obtain ⟨t, rfl⟩ := rx
    obtain ⟨t', rfl⟩ := ry
    obtain ⟨j, h1, h2, h3, h4, h5⟩ := atI_get he
    have hl : z.cps.toList.length = z.length := by simp [Str.length]
    rw [hl] at h1 h4 h5
    exact getItem_str (c := c) (by
      have e1 : decide (i < -(2 ^ 63 : Int)) = false := decide_eq_false (by omega)
      have e2 : decide (i ≥ 2 ^ 63) = false := decide_eq_false (by omega)
      rw [e1, e2, Bool.or_false]) (by rw [h1]; simpa using h2) ⟨.str ⟨#[c]⟩, H, I.tok _, ⟨_, rfl⟩, q⟩
end
end PF
namespace PF
open PySem PySem.Spec PyProof.Rows L2
/-! ### what a def's reading gives, as its own specification -/
def noE : RP → RP
  | .er _ => .no
  | r => r
theorem noE_ref (r : RP) (h : noE r ≠ .no) : r = noE r ∧ ∀ e, noE r ≠ .er e := by
  cases r with
  | er e => exact absurd rfl h
  | no => exact absurd rfl h
  | val d => exact ⟨rfl, fun e h => by cases h⟩
  | obj o => exact ⟨rfl, fun e h => by cases h⟩
/-! ### running readings -/
theorem seq_nx {a b : FS} {env e : En} {h h1 : Hs} {P : R Fl → Prop} (q : a env h = .ok (.nx e) h1) (k : P (b e h1)) : P (fSeq a b env h) := by
  unfold fSeq; rw [q]; exact k
theorem seq_rt {a b : FS} {env : En} {d : D} {h h1 : Hs} {P : R Fl → Prop} (q : a env h = .ok (.rt d) h1) (k : P (.ok (.rt d) h1)) : P (fSeq a b env h) := by
  unfold fSeq; rw [q]; exact k
/-- a loop whose body goes on to the next item -/
theorem for_inv {fg : FG} {fb : FS} {s : Src} (P : En → Hs → Prop) (hg : ∀ e h, P e h → s.good h) : ∀ (l : List D), (∀ d ∈ l, ∀ e h, P e h → ∃ e1 h1, fg d e h = .ok e1 h1 ∧ ∃ e2 h2, (fb e1 h1 = .ok (.nx e2) h2 ∨ fb e1 h1 = .ok (.ct e2) h2) ∧ P e2 h2) → ∀ e h, P e h → ∃ e' h', forN fg fb s l e h = .ok (.nx e') h' ∧ P e' h'
  | [], _, e, h, p => by
    unfold forN
    rw [if_pos (hg e h p)]
    exact ⟨e, h, rfl, p⟩
  | d :: r, hb, e, h, p => by
    unfold forN
    rw [if_pos (hg e h p)]
    obtain ⟨e1, h1, q1, e2, h2, q2, p2⟩ := hb d List.mem_cons_self e h p
    rw [q1]
    simp only [bnd_ok]
    rcases q2 with q2 | q2
    · rw [q2]
      simp only [bnd_ok]
      exact for_inv P hg r (fun d m => hb d (List.mem_cons_of_mem _ m)) e2 h2 p2
    · rw [q2]
      simp only [bnd_ok]
      exact for_inv P hg r (fun d m => hb d (List.mem_cons_of_mem _ m)) e2 h2 p2
theorem good_nil (ds : List D) (h : Hs) : (Src.mk ds []).good h := fun p m => by cases m
/-- a comprehension that reads alone: what it gathers, item by item -/
theorem lc_gives {fg : FG} {fc : FT} {fe : FE} {s : Src} {n : Nat} {env : En} (I : Hs → Prop) (hg : ∀ h, I h → s.good h) (f : D → Option D) :
    ∀ (l : List D) (h : Hs) (acc : List D), I h → h[n]? = some (.lst acc) → acc.length + l.length ≤ 16777216 →
    (∀ d ∈ l, ∀ h acc, I h → h[n]? = some (.lst acc) → ∃ e h1 h2, fg d env h = .ok e h1 ∧ (match f d with
      | some y => fc e h1 = .ok true h2 ∧ ∃ h3, fe e h2 = .ok y h3 ∧ h3[n]? = some (.lst acc) ∧ I (h3.set n (.lst (acc ++ [y])))
      | none => fc e h1 = .ok false h2 ∧ h2[n]? = some (.lst acc) ∧ I h2)) →
    ∃ h', lcN fg fc fe s n env l h = .ok () h' ∧ I h' ∧ h'[n]? = some (.lst (acc ++ l.filterMap f))
  | [], h, acc, i, hn, _, _ => by
    unfold lcN
    rw [if_pos (hg h i)]
    exact ⟨h, rfl, i, by simpa using hn⟩
  | d :: r, h, acc, i, hn, hl, hs => by
    obtain ⟨e, h1, h2, q1, q2⟩ := hs d List.mem_cons_self h acc i hn
    unfold lcN
    rw [if_pos (hg h i), q1]
    simp only [bnd_ok]
    simp only [List.length_cons] at hl
    cases hf : f d with
    | none =>
      rw [hf] at q2
      obtain ⟨q2, q3, q4⟩ := q2
      rw [q2]
      simp only [bnd_ok, Bool.false_eq_true, if_false]
      obtain ⟨h', z1, z2, z3⟩ := lc_gives I hg f r h2 acc q4 q3 (by omega) fun d m => hs d (List.mem_cons_of_mem _ m)
      exact ⟨h', z1, z2, by rw [z3, List.filterMap_cons_none hf]⟩
    | some y =>
      rw [hf] at q2
      obtain ⟨q2, h3, q3, q4, q5⟩ := q2
      rw [q2]
      simp only [bnd_ok, if_true]
      rw [q3]
      simp only [bnd_ok]
      rw [q4]
      simp only []
      rw [if_pos (by omega)]
      obtain ⟨h', z1, z2, z3⟩ := lc_gives I hg f r (h3.set n (.lst (acc ++ [y]))) (acc ++ [y]) q5 (by
        rw [List.getElem?_set_self (by exact (List.getElem?_eq_some_iff.mp q4).1)]) (by simp only [List.length_append, List.length_cons, List.length_nil]; omega) fun d m => hs d (List.mem_cons_of_mem _ m)
      exact ⟨h', z1, z2, by rw [z3, List.filterMap_cons_some hf, List.append_assoc]; rfl⟩
end PF
namespace PF
open PySem PySem.Spec PyProof.Rows L2
/-! ### values -/
theorem eqD_nor {x y : D} {h : Hs} (hx : x.nor = true) (hy : y.nor = true) (dx : dpt x ≤ 60) (dy : dpt y ≤ 60) : eqD x y h = .ok (.bl (deq x y)) h := by
  simp [eqD, dref, hx, hy, dx, dy]
theorem neD_nor {x y : D} {h : Hs} (hx : x.nor = true) (hy : y.nor = true) (dx : dpt x ≤ 60) (dy : dpt y ≤ 60) : neD x y h = .ok (.bl (!deq x y)) h := by
  simp [neD, dref, hx, hy, dx, dy]
theorem eqD_str (s t : List Nat) (h : Hs) : eqD (.str s) (.str t) h = .ok (.bl (s == t)) h := by
  rw [eqD_nor rfl rfl (by simp [dpt]) (by simp [dpt])]; simp [deq]
theorem neD_str (s t : List Nat) (h : Hs) : neD (.str s) (.str t) h = .ok (.bl (!(s == t))) h := by
  rw [neD_nor rfl rfl (by simp [dpt]) (by simp [dpt])]; simp [deq]
theorem eqD_int (i j : Int) (h : Hs) : eqD (.int i) (.int j) h = .ok (.bl (i == j)) h := by
  rw [eqD_nor rfl rfl (by simp [dpt]) (by simp [dpt])]; simp [deq]
theorem neD_int (i j : Int) (h : Hs) : neD (.int i) (.int j) h = .ok (.bl (!(i == j))) h := by
  rw [neD_nor rfl rfl (by simp [dpt]) (by simp [dpt])]; simp [deq]
theorem eqD_bl (i j : Bool) (h : Hs) : eqD (.bl i) (.bl j) h = .ok (.bl (i == j)) h := by
  rw [eqD_nor rfl rfl (by simp [dpt]) (by simp [dpt])]; simp [deq]
theorem neD_bl (i j : Bool) (h : Hs) : neD (.bl i) (.bl j) h = .ok (.bl (!(i == j))) h := by
  rw [neD_nor rfl rfl (by simp [dpt]) (by simp [dpt])]; simp [deq]
mutual
theorem deq_refl : ∀ d : D, d.nor = true → deq d d = true
  | .non, _ => by rw [deq]
  | .bl b, _ => by rw [deq]; simp
  | .int _, _ => by rw [deq]; simp
  | .str _, _ => by rw [deq]; simp
  | .tup xs, h => by rw [deq]; exact deqs_refl xs (by simpa using h)
  | .lst xs, h => by rw [deq]; exact deqs_refl xs (by simpa using h)
  | .ref _, h => by cases h
  | .scr _, h => by cases h
theorem deqs_refl : ∀ ds : List D, nors ds = true → deqs ds ds = true
  | [], _ => by rw [deqs]
  | d :: ds, h => by
    rw [nors_cons, Bool.and_eq_true] at h
    rw [deqs, deq_refl d h.1, deqs_refl ds h.2]; rfl
end
theorem ixN_nat {n k : Nat} (h : k < n) : ixN n (k : Int) = some k := by
  unfold ixN
  rw [if_pos (by omega), if_pos (by omega)]; simp
theorem atI_nat {α : Type} (xs : List α) (k : Nat) : atI xs (k : Int) = xs[k]? := by
  unfold atI ixN
  rw [if_pos (by omega)]
  by_cases h : k < xs.length
  · rw [if_pos (by omega)]; simp
  · rw [if_neg (by omega)]; simp; omega
theorem cut_to {α : Type} (xs : List α) (k : Nat) : cutL xs none (some (k : Int)) = xs.take k := by
  unfold cutL
  rw [HT.sIx_none, HT.sIx_nat]
  simp only [List.drop_zero, Nat.sub_zero]
  by_cases h : k ≤ xs.length
  · rw [Nat.min_eq_left h]
  · rw [Nat.min_eq_right (by omega), List.take_length, List.take_of_length_le (by omega)]
theorem cut_from {α : Type} (xs : List α) (k : Nat) : cutL xs (some (k : Int)) none = xs.drop k := by
  unfold cutL
  rw [HT.sIx_none, HT.sIx_nat]
  by_cases h : k ≤ xs.length
  · rw [Nat.min_eq_left h, List.take_of_length_le (by rw [List.length_drop]; omega)]
  · rw [Nat.min_eq_right (by omega), List.drop_length, List.drop_of_length_le (by omega)]; simp
theorem cut_map {α β : Type} (f : α → β) (xs : List α) (lo hi : Option Int) : cutL (xs.map f) lo hi = (cutL xs lo hi).map f := by
  unfold cutL; rw [List.length_map, ← List.map_drop, ← List.map_take]
theorem cut_len {α : Type} (xs : List α) (lo hi : Option Int) : (cutL xs lo hi).length ≤ xs.length := by
  unfold cutL; rw [List.length_take, List.length_drop]; omega
theorem nors_map_int (l : List Int) : nors (l.map D.int) = true := by
  induction l with
  | nil => rfl
  | cons a r ih => rw [List.map_cons, nors_cons, ih]; rfl
theorem bels_int (n : Nat) (l : List Int) : bels n (l.map D.int) = true := bels_nors n _ (nors_map_int l)
/-- what is new and stands last stays -/
theorem tmp_new (h : Hs) (o : Ob) : tmpR h (.ok (.ref h.length) (h ++ [o])) = .ok (.ref h.length) (h ++ [o]) := by
  unfold tmpR
  simp only [List.take_left]
  split
  · rw [if_neg (by simp [D.pur]), ]
    simp only [Nat.lt_irrefl, if_false]
    rw [List.getElem?_append_right (by omega)]
    simp
  · rfl
noncomputable def tkA : FS := (fIfS (fTest (fOp2 eqD (fOp2 ixD (fVar 0) (fC (.int 0))) (fC (.int 0)))) (fSeq (fAsg (fTmp (fOp2 ixD (fOp2 addD (fSl slD (fOp2 ixD (fVar 0) (fC (.int 3))) (fSo (fOp2 ixD (fVar 0) (fC (.int 2)))) fNo) (fLst (fCons (fC (.int 0)) fNil))) (fC (.int 0)))) (gN 2))
    (fSeq (fAugL (fVar 0) (fC (.int 2)) (fC (.int 1)) iaddD)
    (fSeq (fIfS (fTest (fOp2 geD (fVar 2) (fOp2 powD (fC (.int 10)) (fC (.int 18))))) (fAsg (fVar 2) (gS (fVar 0) (fC (.int 0)))) fNext)
    (fSeq (fAsg (fOp2 addD (fOp2 addD (fOp2 mulD (fOp2 ixD (fVar 0) (fC (.int 1))) (fC (.int 48271))) (fOp2 modD (fCB intD (fCons (fVar 2) fNil)) (fC (.int 2147483647)))) (fOp2 mulD (fC (.int 7919)) (fOp2 ixD (fVar 0) (fC (.int 2))))) (gN 3))
    (fAsg (fOp2 modD (fCB intD (fCons (fVar 3) fNil)) (fC (.int 2147483647))) (gS (fVar 0) (fC (.int 1)))))))) fNext)
noncomputable def tkB : FS := (fSeq (fIfS (fTest (fOp2 gtD (fOp2 ixD (fVar 0) (fC (.int 0))) (fC (.int 0)))) (fSeq (fAsg (fOp2 modD (fCB intD (fCons (fOp2 ixD (fVar 0) (fC (.int 0))) fNil)) (fVar 1)) (gN 4))
    (fSeq (fAsg (fOp2 fdivD (fCB intD (fCons (fOp2 ixD (fVar 0) (fC (.int 0))) fNil)) (fVar 1)) (gS (fVar 0) (fC (.int 0))))
    (fRet (fVar 4)))) fNext)
    (fSeq (fAsg (fOp2 modD (fCB intD (fCons (fOp2 mulD (fOp2 addD (fOp2 ixD (fVar 0) (fC (.int 1))) (fC (.int 1))) (fC (.int 39373))) fNil)) (fC (.int 1000000007))) (gN 5))
    (fSeq (fAsg (fOp2 modD (fCB intD (fCons (fOp2 mulD (fOp2 modD (fCB intD (fCons (fOp2 mulD (fVar 5) (fVar 5)) fNil)) (fC (.int 998244353))) (fC (.int 30011))) fNil)) (fC (.int 998244353))) (gN 6))
    (fRet (fOp2 modD (fCB intD (fCons (fOp2 fdivD (fVar 6) (fC (.int 7))) fNil)) (fVar 1))))))
noncomputable def fsTake : FS := fSeq tkA tkB
noncomputable def alT : FT := (fTest (fOp2 ltD (fVar 3) (fCB lenD (fCons (fVar 2) fNil))))
noncomputable def alB : FS := (fSeq (fAsg (fOp2 ixD (fVar 2) (fVar 3)) (gT 2 (gConsF (gN 4) (gConsF (gN 5) gNilF))))
    (fSeq (fAug 3 iaddD (fC (.int 1)))
    (fSeq (fIfS (fOr (fTest (fOp2 neD (fIsi (fVar 4) ["bool"]) (fIsi (fVar 5) ["bool"]))) (fTest (fOp2 neD (fIsi (fVar 4) ["str"]) (fIsi (fVar 5) ["str"])))) (fRet (fC (.bl false))) fNext)
    (fSeq (fIfS (fTest (fOp2 neD (fIsi (fVar 4) ["tuple", "list"]) (fIsi (fVar 5) ["tuple", "list"]))) (fRet (fC (.bl false))) fNext)
    (fIfS (fTru (fIsi (fVar 4) ["tuple", "list"])) (fSeq (fIfS (fOr (fTest (fOp2 neD (fIsi (fVar 4) ["tuple"]) (fIsi (fVar 5) ["tuple"]))) (fTest (fOp2 neD (fCB lenD (fCons (fVar 4) fNil)) (fCB lenD (fCons (fVar 5) fNil))))) (fRet (fC (.bl false))) fNext)
    (fDrop (fBM "list" extendD (fVar 2) (fCons (fTmp (fCB zipD (fCons (fVar 4) (fCons (fVar 5) fNil)))) fNil)))) (fIfS (fTest (fOp2 neD (fVar 4) (fVar 5))) (fRet (fC (.bl false))) fNext))))))
noncomputable def fsAlike : FS := (fSeq (fPar 2 3 (fCons (fLst (fCons (fTup (fCons (fVar 0) (fCons (fVar 1) fNil))) fNil)) (fCons (fC (.int 0)) fNil)))
    (fSeq (fWhile alT alB)
    (fRet (fC (.bl true)))))
noncomputable def fsSome (F : List D → List Int → Bn → RB) : FS := (fRet (fOp2 ixD (fVar 1) (fCallB F (fCons (fVar 0) (fCons (fCB lenD (fCons (fVar 1) fNil)) fNil)))))
noncomputable def fsBag : FS := (fRet (fLst (fCons (fC (.int 0)) (fCons (fC (.int 1234567891)) (fCons (fC (.int 0)) (fCons (fLc (fIter (fSl slD (fVar 0) fNo (fSo (fC (.int 63))))) (gN 1) fYes (fCB absD (fCons (fVar 1) fNil)) [1]) fNil))))))

/-! ### the drawn numbers -/
abbrev bagH (b : Bn) (cs : List Int) : Hs := [bagO b 1, .lst (cs.map D.int)]
theorem belsB (a s p : Int) : bels 2 [D.int a, .int s, .int p, .ref 1] = true := by
  simp [bels, bel]
theorem ix0 {α : Type} (a b c d : α) : atI [a, b, c, d] (0 : Int) = some a := rfl
theorem ix1 {α : Type} (a b c d : α) : atI [a, b, c, d] (1 : Int) = some b := rfl
theorem ix2 {α : Type} (a b c d : α) : atI [a, b, c, d] (2 : Int) = some c := rfl
theorem ix3 {α : Type} (a b c d : α) : atI [a, b, c, d] (3 : Int) = some d := rfl
theorem ixN0 : ixN 4 (0 : Int) = some 0 := rfl
theorem ixN1 : ixN 4 (1 : Int) = some 1 := rfl
theorem ixN2 : ixN 4 (2 : Int) = some 2 := rfl
theorem head0 (l : List Int) (lo hi : Option Int) : ∃ c, atI (cutL (l.map D.int) lo hi ++ [D.int 0]) (0 : Int) = some (D.int c) := by
  rw [cut_map]
  cases cutL l lo hi with
  | nil => exact ⟨0, rfl⟩
  | cons a r => exact ⟨a, by rw [show (0 : Int) = ((0 : Nat) : Int) from rfl, atI_nat]; rfl⟩
theorem tkA_ok (many : Int) (cs : List Int) (b : Bn) (hc : cs.length ≤ 63) : ∃ o2 o3 b', tkA [some (.ref 0), some (.int many), none, none, none, none, none] (bagH b cs) = .ok (.nx [some (.ref 0), some (.int many), o2, o3, none, none, none]) (bagH b' cs) := by
  obtain ⟨c, hc0⟩ := head0 cs (some b.p) none
  have hl : (cutL (cs.map D.int) (some b.p) none).length + 1 ≤ 16777216 := by
    have := cut_len (cs.map D.int) (some b.p) none
    rw [List.length_map] at this
    omega
  have hb1 := belsB
  have hb2 := bels_int 2 cs
  unfold tkA bagH bagO
  by_cases ha : b.a = 0
  · by_cases hd : (10 : Int) ^ (18 : Int).toNat ≤ c
    · refine ⟨some (.int c), ?_⟩
      simp (decide := true) only [fVar, fC, fOp2, fUn, fNil, fCons, fTup, fLst, fTest, fAnd, fOr, fNot, fAndV, fOrV, fNotV, fIf, fCB, fNo, fSo, fSl, fTmp, fTmpB, fBM, fM1, fAsg, fDrop, fRet, fRetN, fIfS, fPar, fPar3, fAug, fAugL, fNext, fBreak, fCont, gN, gT, gConsF, gNilF, gS, fYes, fTru, fNewB, fIter, fRng1, fRng2, bnd_ok, tmpR, tmpB, lof, own, seqOf, srcOf, addD, subD, fdivD, modD, powD, mulD, negD, ltD, leD, gtD, geD, ixD, slD, lenD, absD, PF.intD, max2D, min2D, listD, tupleD, zipD, iaddD, appendD, extendD, popD, joinD, truD, tyD, isND, notND, D.isNon, List.getElem?_cons_zero, List.getElem?_cons_succ, List.set_cons_zero, List.set_cons_succ, List.length_cons, List.length_nil, List.cons_append, List.nil_append, List.append_nil, List.take_succ_cons, List.take_zero, List.take_nil, List.all_cons, List.all_nil, Bool.and_true, Bool.true_and, Bool.and_self, if_true, if_false, Bool.false_eq_true, Nat.reduceAdd, Nat.zero_add, Nat.reduceLeDiff, Nat.reduceLT, ite_true, ite_false, reduceIte, List.map_cons, List.map_nil, List.replicate, List.length_append, List.getElem?_nil, Option.isSome_some, beq_self_eq_true, fSeq, eqD_int, ix0, ix1, ix2, ix3, ixN0, ixN1, ixN2, hc0, hl, hb1, hb2, ha, hd, belO, D.pur, beq_self_eq_true, decide_true, decide_false, Int.reduceLE, and_self, true_and, and_true, ne_eq, not_false_iff, Int.reduceEq, or_true, true_or]
      exact ⟨_, ⟨c, _, _⟩, rfl⟩
    · refine ⟨some (.int c), ?_⟩
      simp (decide := true) only [fVar, fC, fOp2, fUn, fNil, fCons, fTup, fLst, fTest, fAnd, fOr, fNot, fAndV, fOrV, fNotV, fIf, fCB, fNo, fSo, fSl, fTmp, fTmpB, fBM, fM1, fAsg, fDrop, fRet, fRetN, fIfS, fPar, fPar3, fAug, fAugL, fNext, fBreak, fCont, gN, gT, gConsF, gNilF, gS, fYes, fTru, fNewB, fIter, fRng1, fRng2, bnd_ok, tmpR, tmpB, lof, own, seqOf, srcOf, addD, subD, fdivD, modD, powD, mulD, negD, ltD, leD, gtD, geD, ixD, slD, lenD, absD, PF.intD, max2D, min2D, listD, tupleD, zipD, iaddD, appendD, extendD, popD, joinD, truD, tyD, isND, notND, D.isNon, List.getElem?_cons_zero, List.getElem?_cons_succ, List.set_cons_zero, List.set_cons_succ, List.length_cons, List.length_nil, List.cons_append, List.nil_append, List.append_nil, List.take_succ_cons, List.take_zero, List.take_nil, List.all_cons, List.all_nil, Bool.and_true, Bool.true_and, Bool.and_self, if_true, if_false, Bool.false_eq_true, Nat.reduceAdd, Nat.zero_add, Nat.reduceLeDiff, Nat.reduceLT, ite_true, ite_false, reduceIte, List.map_cons, List.map_nil, List.replicate, List.length_append, List.getElem?_nil, Option.isSome_some, beq_self_eq_true, fSeq, eqD_int, ix0, ix1, ix2, ix3, ixN0, ixN1, ixN2, hc0, hl, hb1, hb2, ha, hd, belO, D.pur, beq_self_eq_true, decide_true, decide_false, Int.reduceLE, and_self, true_and, and_true, ne_eq, not_false_iff, Int.reduceEq, or_true, true_or]
      exact ⟨_, ⟨0, _, _⟩, rfl⟩
  · refine ⟨none, none, b, ?_⟩
    simp (decide := true) only [fVar, fC, fOp2, fUn, fNil, fCons, fTup, fLst, fTest, fAnd, fOr, fNot, fAndV, fOrV, fNotV, fIf, fCB, fNo, fSo, fSl, fTmp, fTmpB, fBM, fM1, fAsg, fDrop, fRet, fRetN, fIfS, fPar, fPar3, fAug, fAugL, fNext, fBreak, fCont, gN, gT, gConsF, gNilF, gS, fYes, fTru, fNewB, fIter, fRng1, fRng2, bnd_ok, tmpR, tmpB, lof, own, seqOf, srcOf, addD, subD, fdivD, modD, powD, mulD, negD, ltD, leD, gtD, geD, ixD, slD, lenD, absD, PF.intD, max2D, min2D, listD, tupleD, zipD, iaddD, appendD, extendD, popD, joinD, truD, tyD, isND, notND, D.isNon, List.getElem?_cons_zero, List.getElem?_cons_succ, List.set_cons_zero, List.set_cons_succ, List.length_cons, List.length_nil, List.cons_append, List.nil_append, List.append_nil, List.take_succ_cons, List.take_zero, List.take_nil, List.all_cons, List.all_nil, Bool.and_true, Bool.true_and, Bool.and_self, if_true, if_false, Bool.false_eq_true, Nat.reduceAdd, Nat.zero_add, Nat.reduceLeDiff, Nat.reduceLT, ite_true, ite_false, reduceIte, List.map_cons, List.map_nil, List.replicate, List.length_append, List.getElem?_nil, Option.isSome_some, beq_self_eq_true, fSeq, eqD_int, ix0, ix1, ix2, ix3, ixN0, ixN1, ixN2, beq_iff_eq, ha, decide_false, beq_eq_false_iff_ne, ne_eq, not_false_iff]
theorem take_gen (many : Int) (hm : 1 ≤ many) (hm2 : many < 1073741824) (cs : List Int) (b : Bn) (hc : cs.length ≤ 63) : ∃ v b', runB 2 7 fsTake [.int many] cs b = .val (.int v) b' ∧ 0 ≤ v ∧ v < many := by
  obtain ⟨o2, o3, b', e⟩ := tkA_ok many cs b hc
  have hn : (many = 0) = False := by simp; omega
  have hk : many.natAbs < 1073741824 := by omega
  have r1 : ∀ x : Int, 0 ≤ x.fmod many ∧ x.fmod many < many := fun x => by
    rw [Int.fmod_eq_emod_of_nonneg x (by omega)]
    exact ⟨Int.emod_nonneg _ (by omega), Int.emod_lt_of_pos _ (by omega)⟩
  have hb1 : ∀ a s p, rdB 0 [Ob.lst [D.int a, .int s, .int p, .ref 1], Ob.lst (cs.map D.int)] = some (⟨a, s, p⟩, 1, cs) := fun a s p => by
    simp [rdB]
  by_cases ha : 0 < b'.a
  · refine ⟨b'.a.fmod many, ⟨b'.a.fdiv many, b'.s, b'.p⟩, ?_, (r1 _).1, (r1 _).2⟩
    unfold runB fsTake
    rw [if_pos (show [D.int many].length + 1 = 2 from rfl)]
    show (match fSeq tkA tkB [some (.ref 0), some (.int many), none, none, none, none, none] (bagH b cs) with
      | .ok (.nx _) h => toB cs (.val .non) h
      | .ok (.rt d) h => toB cs (toP 2 d h) h
      | _ => .no) = _
    unfold fSeq
    rw [e]
    unfold tkB bagH bagO
    simp (decide := true) only [fVar, fC, fOp2, fUn, fNil, fCons, fTup, fLst, fTest, fAnd, fOr, fNot, fAndV, fOrV, fNotV, fIf, fCB, fNo, fSo, fSl, fTmp, fTmpB, fBM, fM1, fAsg, fDrop, fRet, fRetN, fIfS, fPar, fPar3, fAug, fAugL, fNext, fBreak, fCont, gN, gT, gConsF, gNilF, gS, fYes, fTru, fNewB, fIter, fRng1, fRng2, bnd_ok, tmpR, tmpB, lof, own, seqOf, srcOf, addD, subD, fdivD, modD, powD, mulD, negD, ltD, leD, gtD, geD, ixD, slD, lenD, absD, PF.intD, max2D, min2D, listD, tupleD, zipD, iaddD, appendD, extendD, popD, joinD, truD, tyD, isND, notND, D.isNon, List.getElem?_cons_zero, List.getElem?_cons_succ, List.set_cons_zero, List.set_cons_succ, List.length_cons, List.length_nil, List.cons_append, List.nil_append, List.append_nil, List.take_succ_cons, List.take_zero, List.take_nil, List.all_cons, List.all_nil, Bool.and_true, Bool.true_and, Bool.and_self, if_true, if_false, Bool.false_eq_true, Nat.reduceAdd, Nat.zero_add, Nat.reduceLeDiff, Nat.reduceLT, ite_true, ite_false, reduceIte, List.map_cons, List.map_nil, List.replicate, List.length_append, List.getElem?_nil, Option.isSome_some, beq_self_eq_true, fSeq, ix0, ix1, ix2, ix3, ixN0, ixN1, ixN2, ha, hn, hk, toB, toP, D.pur, hb1, decide_true, ne_eq, not_false_iff, and_self]
  · have hB : ∀ x : Int, ((x.fmod 1000000007).natAbs < 18446744073709551616) = True := fun x => by
      rw [Int.fmod_eq_emod_of_nonneg x (by decide)]
      have h1 := Int.emod_nonneg x (b := 1000000007) (by decide)
      have h2 := Int.emod_lt_of_pos x (b := 1000000007) (by decide)
      simp only [eq_iff_iff, iff_true]; omega
    suffices hh : ∃ x : Int, runB 2 7 fsTake [.int many] cs b = .val (.int (x.fmod many)) b' by
      obtain ⟨x, hx⟩ := hh
      exact ⟨_, b', hx, (r1 x).1, (r1 x).2⟩
    show ∃ x : Int, (match fSeq tkA tkB [some (.ref 0), some (.int many), none, none, none, none, none] (bagH b cs) with
        | .ok (.nx _) h => toB cs (.val .non) h
        | .ok (.rt d) h => toB cs (toP 2 d h) h
        | _ => .no) = RB.val (.int (x.fmod many)) b'
    unfold fSeq
    rw [e]
    unfold tkB bagH bagO
    simp (decide := true) only [fVar, fC, fOp2, fUn, fNil, fCons, fTup, fLst, fTest, fAnd, fOr, fNot, fAndV, fOrV, fNotV, fIf, fCB, fNo, fSo, fSl, fTmp, fTmpB, fBM, fM1, fAsg, fDrop, fRet, fRetN, fIfS, fPar, fPar3, fAug, fAugL, fNext, fBreak, fCont, gN, gT, gConsF, gNilF, gS, fYes, fTru, fNewB, fIter, fRng1, fRng2, bnd_ok, tmpR, tmpB, lof, own, seqOf, srcOf, addD, subD, fdivD, modD, powD, mulD, negD, ltD, leD, gtD, geD, ixD, slD, lenD, absD, PF.intD, max2D, min2D, listD, tupleD, zipD, iaddD, appendD, extendD, popD, joinD, truD, tyD, isND, notND, D.isNon, List.getElem?_cons_zero, List.getElem?_cons_succ, List.set_cons_zero, List.set_cons_succ, List.length_cons, List.length_nil, List.cons_append, List.nil_append, List.append_nil, List.take_succ_cons, List.take_zero, List.take_nil, List.all_cons, List.all_nil, Bool.and_true, Bool.true_and, Bool.and_self, if_true, if_false, Bool.false_eq_true, Nat.reduceAdd, Nat.zero_add, Nat.reduceLeDiff, Nat.reduceLT, ite_true, ite_false, reduceIte, List.map_cons, List.map_nil, List.replicate, List.length_append, List.getElem?_nil, Option.isSome_some, beq_self_eq_true, fSeq, ix0, ix1, ix2, ix3, ixN0, ixN1, ixN2, ha, hn, hk, hB, toB, toP, D.pur, hb1, decide_true, decide_false, ne_eq, not_false_iff, and_self, or_true, true_or]
    exact ⟨_, rfl⟩
/-- the law's own choice -/
theorem some_gen (F : List D → List Int → Bn → RB) (hF : ∀ many, 1 ≤ many → many < 1073741824 → ∀ cs b, List.length cs ≤ 63 → ∃ v b', F [.int many] cs b = .val (.int v) b' ∧ 0 ≤ v ∧ v < many)
    (ds : List D) (hp : purs ds = true) (h1 : ds ≠ []) (h2 : ds.length < 1073741824) (cs : List Int) (b : Bn) (hc : cs.length ≤ 63) : ∃ d b', runB 2 2 (fsSome F) [.lst ds] cs b = .val d b' ∧ d ∈ ds := by
  have hl : 0 < ds.length := List.length_pos_iff.mpr h1
  obtain ⟨v, b', e, v0, v1⟩ := hF ds.length (by omega) (by omega) cs b hc
  obtain ⟨k, rfl⟩ := Int.eq_ofNat_of_zero_le v0
  have hk : k < ds.length := by omega
  have hg : ds[k]? = some (ds[k]) := List.getElem?_eq_getElem hk
  have hm : ds[k] ∈ ds := List.getElem_mem hk
  have hpk : (ds[k]).pur = true := by rw [purs_all, List.all_eq_true] at hp; exact hp _ hm
  refine ⟨ds[k], b', ?_, hm⟩
  have hr : rdB 0 [Ob.lst [D.int b.a, .int b.s, .int b.p, .ref 1], Ob.lst (cs.map D.int)] = some (b, 1, cs) := by simp [rdB]
  have hr' : rdB 0 [Ob.lst [D.int b'.a, .int b'.s, .int b'.p, .ref 1], Ob.lst (cs.map D.int)] = some (b', 1, cs) := by simp [rdB]
  unfold runB fsSome
  rw [if_pos (show [D.lst ds].length + 1 = 2 from rfl)]
  simp (decide := true) only [fVar, fC, fOp2, fUn, fNil, fCons, fTup, fLst, fTest, fAnd, fOr, fNot, fAndV, fOrV, fNotV, fIf, fCB, fNo, fSo, fSl, fTmp, fTmpB, fBM, fM1, fAsg, fDrop, fRet, fRetN, fIfS, fPar, fPar3, fAug, fAugL, fNext, fBreak, fCont, gN, gT, gConsF, gNilF, gS, fYes, fTru, fNewB, fIter, fRng1, fRng2, bnd_ok, tmpR, tmpB, lof, own, seqOf, srcOf, addD, subD, fdivD, modD, powD, mulD, negD, ltD, leD, gtD, geD, ixD, slD, lenD, absD, PF.intD, max2D, min2D, listD, tupleD, zipD, iaddD, appendD, extendD, popD, joinD, truD, tyD, isND, notND, D.isNon, List.getElem?_cons_zero, List.getElem?_cons_succ, List.set_cons_zero, List.set_cons_succ, List.length_cons, List.length_nil, List.cons_append, List.nil_append, List.append_nil, List.take_succ_cons, List.take_zero, List.take_nil, List.all_cons, List.all_nil, Bool.and_true, Bool.true_and, Bool.and_self, if_true, if_false, Bool.false_eq_true, Nat.reduceAdd, Nat.zero_add, Nat.reduceLeDiff, Nat.reduceLT, ite_true, ite_false, reduceIte, List.map_cons, List.map_nil, List.replicate, List.length_append, List.getElem?_nil, Option.isSome_some, beq_self_eq_true, fCallB, bagO, hr, dall, dref, D.nor, Int.ofNat_eq_natCast, e, setB, List.set_cons_zero, atI_nat, hg, toB, toP, hpk, hr']
end PF
namespace PF
open PySem PySem.Spec PyProof.Rows L2
/-! ### alike with itself -/
mutual
def dsz : D → Nat
  | .tup xs => dszs xs + 1
  | .lst xs => dszs xs + 1
  | _ => 1
def dszs : List D → Nat
  | [] => 0
  | x :: xs => dsz x + dszs xs
end
theorem dsz_pos : ∀ d, 1 ≤ dsz d := fun d => by cases d <;> simp [dsz]
theorem dszs_append (a b : List D) : dszs (a ++ b) = dszs a + dszs b := by
  induction a with
  | nil => simp [dszs]
  | cons x r ih => simp only [List.cons_append, dszs, ih]; omega
theorem dszs_len (a : List D) : a.length ≤ dszs a := by
  induction a with
  | nil => simp
  | cons x r ih => have := dsz_pos x; simp only [List.length_cons, dszs]; omega
def twin (l : List D) : List D := l.map fun d => .tup [d, d]
theorem zipT_self (l : List D) : zipT l l = twin l := by
  unfold zipT twin
  induction l with
  | nil => rfl
  | cons a r ih => simp only [List.zipWith_cons_cons, List.map_cons, ih]
theorem twin_len (l : List D) : (twin l).length = l.length := by unfold twin; rw [List.length_map]
theorem twin_app (a b : List D) : twin (a ++ b) = twin a ++ twin b := by unfold twin; rw [List.map_append]
abbrev eA (x : D) (i : Int) (o4 o5 : Option D) : En := [some x, some x, some (.ref 0), some (.int i), o4, o5]
theorem nors_app {a b : List D} : nors (a ++ b) = (nors a && nors b) := by rw [nors_all, nors_all, nors_all, List.all_append]
def subs : D → List D
  | .tup xs => xs
  | .lst xs => xs
  | _ => []
theorem dszs_subs (d : D) : dsz d = dszs (subs d) + 1 := by cases d <;> simp [dsz, subs, dszs]
theorem nors_subs {d : D} (h : d.nor = true) : nors (subs d) = true := by
  cases d <;> first | rfl | simpa [subs, D.nor] using h
theorem twin_bel {l : List D} (n : Nat) (h : nors l = true) : bels n (twin l) = true := by
  refine bels_nors n _ ?_
  rw [nors_all] at h ⊢
  unfold twin
  rw [List.all_map]
  rw [List.all_eq_true] at h ⊢
  intro d m
  have := h d m
  simp [D.nor, nors, this]
theorem q_ti : ("tuple" == "int") = false := rfl
theorem q_li : ("list" == "int") = false := rfl
theorem q_bi : ("bool" == "int") = false := rfl
theorem q_si : ("str" == "int") = false := rfl
theorem alike_step (x d : D) (done r : List D) (o4 o5 : Option D) (jk : Hs) (hd : d.nor = true) (hl : done.length + (r.length + 1) + (subs d).length ≤ 16777216) :
    ∃ jk', alB (eA x done.length o4 o5) (.lst (twin (done ++ d :: r)) :: jk) = .ok (.nx (eA x (done.length + 1) (some d) (some d))) (.lst (twin (done ++ d :: r ++ subs d)) :: jk') := by
  have hg : (twin (done ++ d :: r))[done.length]? = some (.tup [d, d]) := by
    unfold twin
    rw [List.getElem?_map, List.getElem?_append_right (by omega)]; simp
  have hs : (twin (done ++ d :: r)).length + (subs d).length ≤ 16777216 := by
    rw [twin_len, List.length_append, List.length_cons]; omega
  have hdr : deq d d = true := deq_refl d hd
  have hw : twin (done ++ d :: r ++ subs d) = twin (done ++ d :: r) ++ twin (subs d) := twin_app _ _
  have leaf : (∀ h, neD d d h = .ok (.bl false) h) → subs d = [] → (∃ t, (∀ h, tyN h d = some t) ∧ t ≠ "tuple" ∧ t ≠ "list") → ∃ jk', alB (eA x done.length o4 o5) (.lst (twin (done ++ d :: r)) :: jk) = .ok (.nx (eA x (done.length + 1) (some d) (some d))) (.lst (twin (done ++ d :: r ++ subs d)) :: jk') := by
    intro h1 h2 ⟨t, h3, n1, n2⟩
    refine ⟨jk, ?_⟩
    rw [h2, List.append_nil]
    have n1' : (t == "tuple") = false := by simpa using n1
    have n2' : (t == "list") = false := by simpa using n2
    unfold alB eA
    simp (decide := true) only [fVar, fC, fOp2, fUn, fNil, fCons, fTup, fLst, fTest, fAnd, fOr, fNot, fAndV, fOrV, fNotV, fIf, fCB, fNo, fSo, fSl, fTmp, fTmpB, fBM, fM1, fAsg, fDrop, fRet, fRetN, fIfS, fPar, fPar3, fAug, fAugL, fNext, fBreak, fCont, gN, gT, gConsF, gNilF, gS, fYes, fTru, fNewB, fIter, fRng1, fRng2, bnd_ok, tmpR, tmpB, lof, own, seqOf, srcOf, addD, subD, fdivD, modD, powD, mulD, negD, ltD, leD, gtD, geD, ixD, slD, lenD, absD, PF.intD, max2D, min2D, listD, tupleD, zipD, iaddD, appendD, extendD, popD, joinD, truD, tyD, isND, notND, D.isNon, List.getElem?_cons_zero, List.getElem?_cons_succ, List.set_cons_zero, List.set_cons_succ, List.length_cons, List.length_nil, List.cons_append, List.nil_append, List.append_nil, List.take_succ_cons, List.take_zero, List.take_nil, List.all_cons, List.all_nil, Bool.and_true, Bool.true_and, Bool.and_self, if_true, if_false, Bool.false_eq_true, Nat.reduceAdd, Nat.zero_add, Nat.reduceLeDiff, Nat.reduceLT, ite_true, ite_false, reduceIte, List.map_cons, List.map_nil, List.replicate, List.length_append, List.getElem?_nil, Option.isSome_some, beq_self_eq_true, fSeq, atI_nat, hg, fIsi, h1, h3, neD_bl, subT, List.any_cons, List.any_nil, n1', n2', q_ti, q_li, q_bi, q_si, Bool.or_false, Bool.false_or, Bool.and_false, Bool.not_true, Bool.not_false, beq_self_eq_true]
  have seq : ∀ c : String, c = "tuple" ∨ c = "list" → (∀ h, tyN h d = some c) → (∀ h, lenD [d] h = .ok (.int (subs d).length) h) → (∀ h, zipD [d, d] h = .ok (.ref h.length) (h ++ [.lst (twin (subs d))])) → ∃ jk', alB (eA x done.length o4 o5) (.lst (twin (done ++ d :: r)) :: jk) = .ok (.nx (eA x (done.length + 1) (some d) (some d))) (.lst (twin (done ++ d :: r ++ subs d)) :: jk') := by
    intro c hc h1 h2 h3
    refine ⟨jk ++ [.lst (twin (subs d))], ?_⟩
    have ht := fun (h : Hs) => tmp_new h (.lst (twin (subs d)))
    have hz : ∀ (h : Hs), (h ++ [Ob.lst (twin (subs d))])[h.length]? = some (.lst (twin (subs d))) := fun h => by simp
    have hz' : (.lst (twin (done ++ d :: r)) :: (jk ++ [Ob.lst (twin (subs d))]))[jk.length + 1]? = some (.lst (twin (subs d))) := by simp
    have hs' : (twin (done ++ d :: r)).length + (twin (subs d)).length ≤ 16777216 := by rw [twin_len (subs d)]; exact hs
    have ct : (c == "tuple" || c == "list") = true := by rcases hc with rfl | rfl <;> rfl
    have cb : (c == "bool") = false := by rcases hc with rfl | rfl <;> rfl
    have cs : (c == "str") = false := by rcases hc with rfl | rfl <;> rfl
    have ct' : (c == "tuple" || (c == "list" || false)) = true := by rcases hc with rfl | rfl <;> rfl
    unfold alB eA
    rw [hw]
    generalize hT : twin (done ++ d :: r) = T at *
    generalize hT' : twin (subs d) = T' at *
    have ht' := ht (.lst T :: jk)
    simp only [List.length_cons, List.cons_append] at ht'
    simp (decide := true) only [fVar, fC, fOp2, fNil, fCons, fTest, fOr, fIf, fCB, fTmp, fBM, fAsg, fDrop, fRet, fIfS, fAug, fNext, gN, gT, gConsF, gNilF, fTru, bnd_ok, lof, own, ixD, iaddD, extendD, truD, tyD, List.getElem?_cons_zero, List.getElem?_cons_succ, List.set_cons_zero, List.set_cons_succ, List.length_cons, List.length_nil, List.cons_append, List.nil_append, Bool.and_true, Bool.true_and, Bool.and_self, if_true, if_false, Bool.false_eq_true, Nat.reduceAdd, Nat.zero_add, ite_true, ite_false, reduceIte, fSeq, atI_nat, hg, fIsi, h1, h2, h3, ht', hs', neD_bl, neD_int, subT, List.any_cons, List.any_nil, cb, cs, ct, ct', q_ti, q_li, q_bi, q_si, Bool.or_false, Bool.false_or, Bool.and_false, Bool.not_true, Bool.not_false, beq_self_eq_true, hz', Option.isSome_some]
  cases d with
  | non => exact leaf (fun h => by rw [neD_nor rfl rfl (by decide) (by decide), hdr]; rfl) rfl ⟨_, fun h => rfl, by decide, by decide⟩
  | bl b => exact leaf (fun h => by rw [neD_nor rfl rfl (by simp [dpt]) (by simp [dpt]), hdr]; rfl) rfl ⟨_, fun h => rfl, by decide, by decide⟩
  | int b => exact leaf (fun h => by rw [neD_nor rfl rfl (by simp [dpt]) (by simp [dpt]), hdr]; rfl) rfl ⟨_, fun h => rfl, by decide, by decide⟩
  | str b => exact leaf (fun h => by rw [neD_nor rfl rfl (by simp [dpt]) (by simp [dpt]), hdr]; rfl) rfl ⟨_, fun h => rfl, by decide, by decide⟩
  | tup xs => exact seq _ (.inl rfl) (fun h => rfl) (fun h => rfl) (fun h => by rw [← zipT_self]; rfl)
  | lst xs => exact seq _ (.inr rfl) (fun h => rfl) (fun h => rfl) (fun h => by rw [← zipT_self]; rfl)
  | ref n => cases hd
  | scr n => cases hd
theorem alike_loop (x : D) : ∀ (fuel : Nat) (done rest : List D) (o4 o5 : Option D) (jk : Hs), nors rest = true → done.length + dszs rest ≤ 16777216 → dszs rest < fuel →
    ∃ e h, whileN alT alB fuel (eA x done.length o4 o5) (.lst (twin (done ++ rest)) :: jk) = .ok (.nx e) h
  | 0, _, _, _, _, _, _, _, hf => by omega
  | fuel + 1, done, [], o4, o5, jk, _, _, _ => by
    unfold whileN alT eA
    simp (decide := true) only [fVar, fC, fOp2, fUn, fNil, fCons, fTup, fLst, fTest, fAnd, fOr, fNot, fAndV, fOrV, fNotV, fIf, fCB, fNo, fSo, fSl, fTmp, fTmpB, fBM, fM1, fAsg, fDrop, fRet, fRetN, fIfS, fPar, fPar3, fAug, fAugL, fNext, fBreak, fCont, gN, gT, gConsF, gNilF, gS, fYes, fTru, fNewB, fIter, fRng1, fRng2, bnd_ok, tmpR, tmpB, lof, own, seqOf, srcOf, addD, subD, fdivD, modD, powD, mulD, negD, ltD, leD, gtD, geD, ixD, slD, lenD, absD, PF.intD, max2D, min2D, listD, tupleD, zipD, iaddD, appendD, extendD, popD, joinD, truD, tyD, isND, notND, D.isNon, List.getElem?_cons_zero, List.getElem?_cons_succ, List.set_cons_zero, List.set_cons_succ, List.length_cons, List.length_nil, List.cons_append, List.nil_append, List.append_nil, List.take_succ_cons, List.take_zero, List.take_nil, List.all_cons, List.all_nil, Bool.and_true, Bool.true_and, Bool.and_self, if_true, if_false, Bool.false_eq_true, Nat.reduceAdd, Nat.zero_add, Nat.reduceLeDiff, Nat.reduceLT, ite_true, ite_false, reduceIte, List.map_cons, List.map_nil, List.replicate, List.length_append, List.getElem?_nil, Option.isSome_some, beq_self_eq_true, twin_len, List.append_nil, Int.lt_irrefl, decide_false]
    exact ⟨_, _, rfl⟩
  | fuel + 1, done, d :: r, o4, o5, jk, hn, hl, hf => by
    rw [nors_cons, Bool.and_eq_true] at hn
    have e1 : dszs (d :: r) = dsz d + dszs r := by rw [dszs]
    have e2 := dszs_subs d
    have e3 := dszs_len r
    have e4 := dszs_len (subs d)
    rw [e1] at hl hf
    obtain ⟨jk', q⟩ := alike_step x d done r o4 o5 jk hn.1 (by omega)
    obtain ⟨e, h, z⟩ := alike_loop x fuel (done ++ [d]) (r ++ subs d) (some d) (some d) jk' (by rw [nors_app, hn.2, nors_subs hn.1]; rfl) (by rw [dszs_append, List.length_append]; simp only [List.length_cons, List.length_nil]; omega) (by rw [dszs_append]; omega)
    refine ⟨e, h, ?_⟩
    have hlt : ((done.length : Int) < ((twin (done ++ d :: r)).length : Int)) = True := by
      simp only [twin_len, List.length_append, List.length_cons, eq_iff_iff, iff_true]; omega
    have e5 : done ++ [d] ++ (r ++ subs d) = done ++ d :: r ++ subs d := by simp
    have e6 : ((done ++ [d]).length : Int) = (done.length : Int) + 1 := by simp
    rw [e5, e6] at z
    unfold whileN
    have hc : alT (eA x done.length o4 o5) (.lst (twin (done ++ d :: r)) :: jk) = .ok true (.lst (twin (done ++ d :: r)) :: jk) := by
      unfold alT eA
      simp (decide := true) only [fVar, fC, fOp2, fUn, fNil, fCons, fTup, fLst, fTest, fAnd, fOr, fNot, fAndV, fOrV, fNotV, fIf, fCB, fNo, fSo, fSl, fTmp, fTmpB, fBM, fM1, fAsg, fDrop, fRet, fRetN, fIfS, fPar, fPar3, fAug, fAugL, fNext, fBreak, fCont, gN, gT, gConsF, gNilF, gS, fYes, fTru, fNewB, fIter, fRng1, fRng2, bnd_ok, tmpR, tmpB, lof, own, seqOf, srcOf, addD, subD, fdivD, modD, powD, mulD, negD, ltD, leD, gtD, geD, ixD, slD, lenD, absD, PF.intD, max2D, min2D, listD, tupleD, zipD, iaddD, appendD, extendD, popD, joinD, truD, tyD, isND, notND, D.isNon, List.getElem?_cons_zero, List.getElem?_cons_succ, List.set_cons_zero, List.set_cons_succ, List.length_cons, List.length_nil, List.cons_append, List.nil_append, List.append_nil, List.take_succ_cons, List.take_zero, List.take_nil, List.all_cons, List.all_nil, Bool.and_true, Bool.true_and, Bool.and_self, if_true, if_false, Bool.false_eq_true, Nat.reduceAdd, Nat.zero_add, Nat.reduceLeDiff, Nat.reduceLT, ite_true, ite_false, reduceIte, List.map_cons, List.map_nil, List.replicate, List.length_append, List.getElem?_nil, Option.isSome_some, beq_self_eq_true, hlt, decide_true]
    rw [hc]
    simp only [bnd_ok, if_true]
    rw [q]
    exact z
theorem alike_gen (x : D) (hn : x.nor = true) (hs : dsz x ≤ 16777216) : noE (runP 2 6 fsAlike [x, x]) = .val (.bl true) := by
  have e0 : dszs [x] = dsz x := by simp [dszs]
  obtain ⟨e, h, z⟩ := alike_loop x (dsz x + 1) [] [x] none none [] (by rw [nors_cons, hn]; rfl) (by rw [e0]; simpa using hs) (by rw [e0]; omega)
  have w := fWhile_eq z (by exact fun z => z)
  unfold runP fsAlike
  rw [if_pos (show [x, x].length = 2 from rfl)]
  show noE (match fSeq _ _ [some x, some x, none, none, none, none] [] with
    | .ok (.nx _) _ => .val .non
    | .ok (.rt d) h => toP 0 d h
    | .ok _ _ => .no
    | .er e _ _ => .er e
    | .no => .no) = _
  simp (decide := true) only [fVar, fC, fOp2, fUn, fNil, fCons, fTup, fLst, fTest, fAnd, fOr, fNot, fAndV, fOrV, fNotV, fIf, fCB, fNo, fSo, fSl, fTmp, fTmpB, fBM, fM1, fAsg, fDrop, fRet, fRetN, fIfS, fPar, fPar3, fAug, fAugL, fNext, fBreak, fCont, gN, gT, gConsF, gNilF, gS, fYes, fTru, fNewB, fIter, fRng1, fRng2, bnd_ok, tmpR, tmpB, lof, own, seqOf, srcOf, addD, subD, fdivD, modD, powD, mulD, negD, ltD, leD, gtD, geD, ixD, slD, lenD, absD, PF.intD, max2D, min2D, listD, tupleD, zipD, iaddD, appendD, extendD, popD, joinD, truD, tyD, isND, notND, D.isNon, List.getElem?_cons_zero, List.getElem?_cons_succ, List.set_cons_zero, List.set_cons_succ, List.length_cons, List.length_nil, List.cons_append, List.nil_append, List.append_nil, List.take_succ_cons, List.take_zero, List.take_nil, List.all_cons, List.all_nil, Bool.and_true, Bool.true_and, Bool.and_self, if_true, if_false, Bool.false_eq_true, Nat.reduceAdd, Nat.zero_add, Nat.reduceLeDiff, Nat.reduceLT, ite_true, ite_false, reduceIte, List.map_cons, List.map_nil, List.replicate, List.length_append, List.getElem?_nil, Option.isSome_some, beq_self_eq_true, fSeq]
  have w' : fWhile alT alB [some x, some x, some (D.ref 0), some (D.int 0), none, none] [Ob.lst [D.tup [x, x]]] = .ok (.nx e) h := w
  rw [w']
  rfl
/-! ### the drawn numbers' start -/
theorem good_own {ds : List D} {h : Hs} {n : Nat} (e : h[n]? = some (.lst ds)) : (Src.mk ds [(n, ds)]).good h := fun p m => by
  simp at m; subst m; exact e
theorem bag_gen (ns : List Int) (hl : ns.length ≤ 63) : ∃ h n m, fsBag (([D.scr ns].map some) ++ List.replicate (2 - 1) none) [] = .ok (.rt (.ref n)) h ∧ h[n]? = some (bagO ⟨0, 1234567891, 0⟩ m) ∧ h[m]? = some (.lst ((ns.map fun i => if i < 0 then -i else i).map D.int)) := by
  have hcut : cutL ns none (some 63) = ns := by
    rw [show (63 : Int) = ((63 : Nat) : Int) from rfl, cut_to, List.take_of_length_le hl]
  have hsl : fIter (fSl slD (fVar 0) fNo (fSo (fC (.int 63)))) [some (.scr ns), none] [] = .ok ⟨ns.map D.int, [(0, ns.map D.int)]⟩ [.lst (ns.map D.int)] := by
    simp (decide := true) only [fVar, fC, fOp2, fUn, fNil, fCons, fTup, fLst, fTest, fAnd, fOr, fNot, fAndV, fOrV, fNotV, fIf, fCB, fNo, fSo, fSl, fTmp, fTmpB, fBM, fM1, fAsg, fDrop, fRet, fRetN, fIfS, fPar, fPar3, fAug, fAugL, fNext, fBreak, fCont, gN, gT, gConsF, gNilF, gS, fYes, fTru, fNewB, fIter, fRng1, fRng2, bnd_ok, tmpR, tmpB, lof, own, seqOf, srcOf, addD, subD, fdivD, modD, powD, mulD, negD, ltD, leD, gtD, geD, ixD, slD, lenD, absD, PF.intD, max2D, min2D, listD, tupleD, zipD, iaddD, appendD, extendD, popD, joinD, truD, tyD, isND, notND, D.isNon, List.getElem?_cons_zero, List.getElem?_cons_succ, List.set_cons_zero, List.set_cons_succ, List.length_cons, List.length_nil, List.cons_append, List.nil_append, List.append_nil, List.take_succ_cons, List.take_zero, List.take_nil, List.all_cons, List.all_nil, Bool.and_true, Bool.true_and, Bool.and_self, if_true, if_false, Bool.false_eq_true, Nat.reduceAdd, Nat.zero_add, Nat.reduceLeDiff, Nat.reduceLT, ite_true, ite_false, reduceIte, List.map_cons, List.map_nil, List.replicate, List.length_append, List.getElem?_nil, Option.isSome_some, beq_self_eq_true, hcut]
  obtain ⟨h', z1, z2, z3⟩ := lc_gives (fg := gN 1) (fc := fYes) (fe := fCB absD (fCons (fVar 1) fNil)) (s := ⟨ns.map D.int, [(0, ns.map D.int)]⟩) (n := 1) (env := [some (.scr ns), none]) (fun h => h[0]? = some (.lst (ns.map D.int)) ∧ h.length = 2) (fun h i => good_own i.1)
    (fun d => match d with | .int i => some (.int (if i < 0 then -i else i)) | _ => none) (ns.map D.int) [.lst (ns.map D.int), .lst []] [] ⟨rfl, rfl⟩ rfl (by rw [List.length_map]; simp only [List.length_nil]; omega) (fun d m h acc i hn => by
      obtain ⟨k, _, rfl⟩ := List.mem_map.mp m
      refine ⟨_, h, h, rfl, rfl, h, ?_, hn, ?_, ?_⟩
      · simp (decide := true) only [fVar, fC, fOp2, fUn, fNil, fCons, fTup, fLst, fTest, fAnd, fOr, fNot, fAndV, fOrV, fNotV, fIf, fCB, fNo, fSo, fSl, fTmp, fTmpB, fBM, fM1, fAsg, fDrop, fRet, fRetN, fIfS, fPar, fPar3, fAug, fAugL, fNext, fBreak, fCont, gN, gT, gConsF, gNilF, gS, fYes, fTru, fNewB, fIter, fRng1, fRng2, bnd_ok, tmpR, tmpB, lof, own, seqOf, srcOf, addD, subD, fdivD, modD, powD, mulD, negD, ltD, leD, gtD, geD, ixD, slD, lenD, absD, PF.intD, max2D, min2D, listD, tupleD, zipD, iaddD, appendD, extendD, popD, joinD, truD, tyD, isND, notND, D.isNon, List.getElem?_cons_zero, List.getElem?_cons_succ, List.set_cons_zero, List.set_cons_succ, List.length_cons, List.length_nil, List.cons_append, List.nil_append, List.append_nil, List.take_succ_cons, List.take_zero, List.take_nil, List.all_cons, List.all_nil, Bool.and_true, Bool.true_and, Bool.and_self, if_true, if_false, Bool.false_eq_true, Nat.reduceAdd, Nat.zero_add, Nat.reduceLeDiff, Nat.reduceLT, ite_true, ite_false, reduceIte, List.map_cons, List.map_nil, List.replicate, List.length_append, List.getElem?_nil, Option.isSome_some, beq_self_eq_true]
      · rw [List.getElem?_set_ne (by decide)]; exact i.1
      · rw [List.length_set]; exact i.2)
  have z4 : ∀ ns : List Int, (ns.map D.int).filterMap (fun d => match d with | .int i => some (D.int (if i < 0 then -i else i)) | _ => none) = (ns.map fun i => if i < 0 then -i else i).map D.int := by
    intro ns
    clear z2 z3 z1 hsl hcut hl h'
    induction ns with
    | nil => rfl
    | cons a r ih => simp only [List.map_cons, List.filterMap_cons, ih]
  rw [z4, List.nil_append] at z3
  have z5 : fLc (fIter (fSl slD (fVar 0) fNo (fSo (fC (.int 63))))) (gN 1) fYes (fCB absD (fCons (fVar 1) fNil)) [1] [some (.scr ns), none] [] = .ok (.ref 1) h' := by
    unfold fLc
    rw [hsl]
    simp only [bnd_ok, wipeE, List.set_cons_succ, List.set_cons_zero]
    show (lcN _ _ _ _ 1 _ _ [Ob.lst (ns.map D.int), Ob.lst []]).bnd _ = _
    rw [z1]
    rfl
  refine ⟨h' ++ [bagO ⟨0, 1234567891, 0⟩ 1], 2, 1, ?_, ?_, ?_⟩
  · unfold fsBag
    show fRet _ [some (.scr ns), none] [] = _
    simp (decide := true) only [fRet, fLst, fCons, fC, fNil, bnd_ok, z5, List.length_cons, List.length_nil, z2.2, if_true, bagO]
  · rw [List.getElem?_append_right (by rw [z2.2]; decide), z2.2]; rfl
  · rw [List.getElem?_append_left (by rw [z2.2]; decide)]; exact z3
end PF
namespace PF
open PySem PySem.Spec PyProof.Rows L2
/-- a loop by what holds before each rest of its items -/
theorem for_rel {fg : FG} {fb : FS} {s : Src} (J : List D → En → Hs → Prop) (hg : ∀ l e h, J l e h → s.good h) (hs : ∀ d r e h, J (d :: r) e h → ∃ e1 h1, fg d e h = .ok e1 h1 ∧ ∃ e2 h2, (fb e1 h1 = .ok (.nx e2) h2 ∨ fb e1 h1 = .ok (.ct e2) h2) ∧ J r e2 h2) :
    ∀ (l : List D) (e : En) (h : Hs), J l e h → ∃ e' h', forN fg fb s l e h = .ok (.nx e') h' ∧ J [] e' h'
  | [], e, h, p => by
    unfold forN
    rw [if_pos (hg _ e h p)]
    exact ⟨e, h, rfl, p⟩
  | d :: r, e, h, p => by
    unfold forN
    rw [if_pos (hg _ e h p)]
    obtain ⟨e1, h1, q1, e2, h2, q2, p2⟩ := hs d r e h p
    rw [q1]
    simp only [bnd_ok]
    rcases q2 with q2 | q2
    · rw [q2]
      simp only [bnd_ok]
      exact for_rel J hg hs r e2 h2 p2
    · rw [q2]
      simp only [bnd_ok]
      exact for_rel J hg hs r e2 h2 p2
/-- a comprehension by what holds before each rest of its items -/
theorem lc_rel {fg : FG} {fc : FT} {fe : FE} {s : Src} {n : Nat} {env : En} (J : List D → List D → Hs → Prop) (hg : ∀ l acc h, J l acc h → s.good h ∧ h[n]? = some (.lst acc) ∧ acc.length + l.length ≤ 16777216)
    (hs : ∀ d r acc h, J (d :: r) acc h → ∃ e h1, fg d env h = .ok e h1 ∧ ∃ b h2, fc e h1 = .ok b h2 ∧ (b = false → J r acc h2) ∧ (b = true → ∃ y h3, fe e h2 = .ok y h3 ∧ h3[n]? = some (.lst acc) ∧ J r (acc ++ [y]) (h3.set n (.lst (acc ++ [y]))))) :
    ∀ (l : List D) (acc : List D) (h : Hs), J l acc h → ∃ acc' h', lcN fg fc fe s n env l h = .ok () h' ∧ J [] acc' h'
  | [], acc, h, p => by
    unfold lcN
    rw [if_pos (hg _ _ h p).1]
    exact ⟨acc, h, rfl, p⟩
  | d :: r, acc, h, p => by
    obtain ⟨g1, g2, g3⟩ := hg _ _ h p
    simp only [List.length_cons] at g3
    unfold lcN
    rw [if_pos g1]
    obtain ⟨e, h1, q1, b, h2, q2, q3, q4⟩ := hs d r acc h p
    rw [q1]
    simp only [bnd_ok]
    rw [q2]
    simp only [bnd_ok]
    cases b with
    | false =>
      simp only [Bool.false_eq_true, if_false]
      exact lc_rel J hg hs r acc h2 (q3 rfl)
    | true =>
      obtain ⟨y, h3, z1, z2, z3⟩ := q4 rfl
      simp only [if_true]
      rw [z1]
      simp only [bnd_ok]
      rw [z2]
      simp only []
      rw [if_pos (by omega)]
      exact lc_rel J hg hs r (acc ++ [y]) _ z3
theorem tmp_pur {h h' k : Hs} {d : D} (hp : d.pur = true) (e : h'.take h.length = k) (hb : k.all (belO h.length) = true) : tmpR h (.ok d h') = .ok d k := by
  unfold tmpR
  simp only [e, hb, hp, if_true]
theorem tmpB_cut {h h' k : Hs} {b : Bool} (e : h'.take h.length = k) (hb : k.all (belO h.length) = true) : tmpB h (.ok b h') = .ok b k := by
  unfold tmpB
  simp only [e, hb, if_true]
/-- the bag and its cells stand first -/
abbrev BH (cs : List Int) (b : Bn) (rest : Hs) : Hs := .lst (cs.map D.int) :: bagO b 0 :: rest
theorem callB_ev {F : List D → List Int → Bn → RB} {fa : FA} {env : En} {cs : List Int} {b b' : Bn} {rest rest' : Hs} {r ds : List D} {d : D} (h1 : fa env (BH cs b rest) = .ok (.ref 1 :: r) (BH cs b rest')) (h2 : dall (dref (.dct [] :: .dct [] :: rest') 6) r = some ds)
    (h3 : F ds cs b = .val d b') : fCallB F fa env (BH cs b rest) = .ok d (BH cs b' rest') := by
  have hr : rdB 1 (BH cs b rest') = some (b, 0, cs) := by simp [rdB, bagO]
  unfold fCallB
  rw [h1]
  simp only [bnd_ok]
  rw [hr]
  simp only []
  rw [if_pos (by decide)]
  have hm : mask (BH cs b rest') 1 0 = .dct [] :: .dct [] :: rest' := rfl
  rw [hm, h2]
  simp only []
  rw [h3]
  simp only [setB, BH, List.set_cons_succ, List.set_cons_zero]
theorem belBH (n : Nat) (hn : 2 ≤ n) (cs : List Int) (b : Bn) : belO n (.lst (cs.map D.int)) = true ∧ belO n (bagO b 0) = true := by
  refine ⟨bels_int n cs, ?_⟩
  have : decide (0 < n) = true := by simp; omega
  simp [bagO, belO, bels, bel]; omega
theorem dall_nor (h : Hs) : ∀ (r : List D), nors r = true → dall (dref h 6) r = some r
  | [], _ => rfl
  | d :: r, hn => by
    rw [nors_cons, Bool.and_eq_true] at hn
    unfold dall
    rw [dall_nor h r hn.2]
    simp [dref, hn.1]
/-! ### texts -/
theorem joinL_nil (l : List (List Nat)) : joinL [] l = l.flatten := by
  cases l with
  | nil => rfl
  | cons x r => simp [joinL]
theorem tmpB_id (h : Hs) (b : Bool) : tmpB h (.ok b h) = .ok b h := by
  unfold tmpB
  simp only [List.take_length]
  split <;> rfl
theorem tmpR_id {h : Hs} {d : D} (hp : d.pur = true) : tmpR h (.ok d h) = .ok d h := by
  unfold tmpR
  simp only [List.take_length, hp, if_true]
  split <;> rfl
theorem call_val {F : List D → RP} {fa : FA} {env : En} {h h' : Hs} {ds ds' : List D} {d : D} (h1 : fa env h = .ok ds h') (h2 : dall (dref h' 6) ds = some ds') (h3 : F ds' = .val d) : fCall F fa env h = .ok d h' := by
  unfold fCall; rw [h1]; simp only [bnd_ok]; rw [h2]; simp only []; rw [h3]
theorem call_obj {F : List D → RP} {fa : FA} {env : En} {h h' : Hs} {ds ds' : List D} {o : Ob} (h1 : fa env h = .ok ds h') (h2 : dall (dref h' 6) ds = some ds') (h3 : F ds' = .obj o) : fCall F fa env h = .ok (.ref h'.length) (h' ++ [o]) := by
  unfold fCall; rw [h1]; simp only [bnd_ok]; rw [h2]; simp only []; rw [h3]
theorem good_nil' (ds : List D) (h : Hs) : (Src.mk ds []).good h := good_nil ds h
/-! ### ranges -/
theorem mem_range {lo : Int} {n : Nat} {d : D} (m : d ∈ rangeL lo n) : ∃ i : Nat, i < n ∧ d = .int (lo + i) := by
  unfold rangeL at m
  obtain ⟨i, h1, rfl⟩ := List.mem_map.mp m
  exact ⟨i, List.mem_range.mp h1, rfl⟩
theorem range_len (lo : Int) (n : Nat) : (rangeL lo n).length = n := by unfold rangeL; simp
theorem dall_norK (h : Hs) (k : Nat) : ∀ (r : List D), nors r = true → dall (dref h k) r = some r
  | [], _ => rfl
  | d :: r, hn => by
    rw [nors_cons, Bool.and_eq_true] at hn
    unfold dall
    rw [dall_norK h k r hn.2]
    cases k <;> simp [dref, hn.1]
theorem dref_ref {h : Hs} {n : Nat} {a : List D} (e : h[n]? = some (.lst a)) (hn : nors a = true) : dref h 6 (.ref n) = some (.lst a) := by
  unfold dref
  rw [if_neg (by simp [D.nor])]
  simp only [e, hn, if_true]
theorem eqD_ref {h : Hs} {n m : Nat} {a b : List D} (e : h[n]? = some (.lst a)) (e' : h[m]? = some (.lst b)) (hn : nors a = true) (hm : nors b = true) (da : dpts a ≤ 59) (db : dpts b ≤ 59) : eqD (.ref n) (.ref m) h = .ok (.bl (deqs a b)) h := by
  unfold eqD
  rw [dref_ref e hn, dref_ref e' hm]
  simp only []
  rw [if_pos ⟨by rw [dpt]; omega, by rw [dpt]; omega⟩, deq]
theorem deqs_nil (l : List D) : deqs l [] = l.isEmpty := by cases l <;> simp [deqs]
theorem dpts_zero : ∀ {l : List D}, (∀ d ∈ l, dpt d = 0) → dpts l = 0
  | [], _ => rfl
  | d :: r, h => by
    rw [dpts, dpts_zero fun d m => h d (List.mem_cons_of_mem _ m), h d List.mem_cons_self]; rfl
theorem all_BH (n : Nat) (hn : 2 ≤ n) (cs : List Int) (b : Bn) (rest : Hs) (h : rest.all (belO n) = true) : (BH cs b rest).all (belO n) = true := by
  simp only [BH, List.all_cons, (belBH n hn cs b).1, (belBH n hn cs b).2, h, Bool.and_self]
theorem strs_bel (n : Nat) (l : List (List Nat)) : bels n (l.map D.str) = true := bels_nors n _ (nors_of_purs _ (purs_map_str' l))
theorem tmp_BH {cs : List Int} {b b' : Bn} {d : D} (hp : d.pur = true) (junk : Hs) : tmpR (BH cs b []) (.ok d (BH cs b' junk)) = .ok d (BH cs b' []) := tmp_pur hp rfl (all_BH 2 (Nat.le_refl 2) cs b' [] rfl)
theorem seqE {a b : FS} {env e : En} {h h1 : Hs} (q : a env h = .ok (.nx e) h1) : fSeq a b env h = b e h1 := by
  unfold fSeq; rw [q]; rfl
theorem seqR {a b : FS} {env : En} {d : D} {h h1 : Hs} (q : a env h = .ok (.rt d) h1) : fSeq a b env h = .ok (.rt d) h1 := by
  unfold fSeq; rw [q]; rfl
theorem forE {fi : FI} {fg : FG} {fb : FS} {env e : En} {h h0 h1 : Hs} {s : Src} (q : fi env h = .ok s h0) (k : forN fg fb s s.items env h0 = .ok (.nx e) h1) : fFor fi fg fb env h = .ok (.nx e) h1 := by
  unfold fFor; rw [q]; exact k
theorem ifF {fc : FT} {a b : FS} {env : En} {h h1 : Hs} (q : fc env h = .ok false h1) : fIfS fc a b env h = b env h1 := by
  unfold fIfS; rw [q]; rfl
theorem ifT {fc : FT} {a b : FS} {env : En} {h h1 : Hs} (q : fc env h = .ok true h1) : fIfS fc a b env h = a env h1 := by
  unfold fIfS; rw [q]; rfl
end PF
namespace PF
open PySem PySem.Spec PyProof.Rows L2
/-! ### enumerate and zip as what is walked -/
def enumL : Nat → List D → List D
  | _, [] => []
  | k, d :: r => .tup [.int (k : Nat), d] :: enumL (k + 1) r
theorem enumL_len : ∀ (l : List D) (k : Nat), (enumL k l).length = l.length
  | [], _ => rfl
  | d :: r, k => by simp only [enumL, List.length_cons, enumL_len r]
theorem enumL_get : ∀ (l : List D) (k i : Nat), (enumL k l)[i]? = (l[i]?).map fun d => D.tup [.int ((k + i : Nat)), d]
  | [], k, i => by simp [enumL]
  | d :: r, k, 0 => by simp [enumL]
  | d :: r, k, i + 1 => by
    simp only [enumL, List.getElem?_cons_succ, enumL_get r]
    rw [show k + 1 + i = k + (i + 1) by omega]
def bs (h : Hs) (x : D) : Option Src := match x with
  | .tup ds => some ⟨ds, []⟩
  | .lst ds => some ⟨ds, []⟩
  | .ref n => match h[n]? with
    | some (.lst ds) => some ⟨ds, [(n, ds)]⟩
    | _ => none
  | _ => none
def Vw (K : PySem.W.Frag) (H0 : Hp) (sp : List Addr) (Sq : Hp → List V → Prop) (s : Src) (ι0 : List Addr) (Hs0 : Hp) : Prop := ∀ (ι : List Addr) (h : Hs) (H : Hp), Rel K H0 sp ι h H → Stp ι0 Hs0 ι H → s.good h → ∃ vs, Sq H vs ∧ VRs K ι H s.items vs
section
variable {K : PySem.W.Frag} {H0 : Hp} {sp ι : List Addr} {h : Hs} {H : Hp}
theorem vw_of {x : D} {v : V} {s : Src} (R : Rel K H0 sp ι h H) (q : VR K ι H x v) (e : bs h x = some s) : ∃ a, v = .ref a ∧ (((∃ xs, SqL K H a xs) ∧ Vw K H0 sp (fun H xs => SqL K H a xs) s ι H) ∨ ((∃ xs, SqT K H a xs) ∧ Vw K H0 sp (fun H xs => SqT K H a xs) s ι H)) := by
  cases x with
  | tup ds =>
    cases e
    obtain ⟨a, vs, rfl, p, r⟩ := q.tupE
    exact ⟨a, rfl, .inr ⟨⟨vs, p⟩, fun ι1 h1 H1 R1 S1 _ => ⟨vs, sqT_step S1 p, VRs.mono S1 _ _ r⟩⟩⟩
  | lst ds =>
    cases e
    unfold VR at q
    obtain ⟨a, vs, rfl, p, na, r⟩ := q
    exact ⟨a, rfl, .inl ⟨⟨vs, SqL.of p⟩, fun ι1 h1 H1 R1 S1 _ => ⟨vs, SqL.of (S1.keep _ _ p na).1, VRs.mono S1 _ _ r⟩⟩⟩
  | ref n =>
    unfold bs at e
    cases hn : h[n]? with
    | none => simp only [hn] at e; cases e
    | some o =>
      simp only [hn] at e
      cases o with
      | dct b => cases e
      | lst ds =>
        cases e
        unfold VR at q
        obtain ⟨a, rfl, e2⟩ := q
        obtain ⟨b, e3, vs, p, r⟩ := R.ob _ _ hn
        rw [e2] at e3; cases e3
        refine ⟨a, rfl, .inl ⟨⟨vs, SqL.of p⟩, fun ι1 h1 H1 R1 S1 good => ?_⟩⟩
        obtain ⟨b, e4, vs', p1, r1⟩ := R1.ob _ _ (good (n, ds) (by simp))
        rw [S1.pre _ _ e2] at e4; cases e4
        exact ⟨vs', SqL.of p1, r1⟩
  | _ => cases e
theorem wk_enum {a : Addr} {s : Src} (q : ((∃ xs, SqL K H a xs) ∧ Vw K H0 sp (fun H xs => SqL K H a xs) s ι H)) : Wk K H0 sp (Ite K a) ⟨enumL 0 s.items, s.gd⟩ ι H := by
  intro ι1 h1 H1 R1 S1 good
  obtain ⟨vs, p1, r1⟩ := q.2 ι1 h1 H1 R1 S1 good
  have hl := r1.length
  refine ⟨fun i hi => ?_, ⟨vs, p1, by rw [enumL_len]; exact Nat.le_of_eq hl.symm⟩⟩
  rw [enumL_len] at hi
  refine ⟨⟨vs, vs[i]'(by rw [← hl]; exact hi), p1, by simp⟩, fun x H' y => ?_⟩
  obtain ⟨T, xv, rfl, hT, rfl, y2⟩ := y
  obtain ⟨d, h2, q2⟩ := r1.back (y2 vs p1)
  obtain ⟨x1, x2⟩ := newT (p := T) R1 (VRs.cons (d := D.int (i : Nat)) (v := V.int (i : Nat)) rfl (.one q2)) hT
  exact ⟨_, by rw [enumL_get, h2, Nat.zero_add]; rfl, x1, x2⟩
theorem wk_enumT {a : Addr} {s : Src} (q : ((∃ xs, SqT K H a xs) ∧ Vw K H0 sp (fun H xs => SqT K H a xs) s ι H)) : Wk K H0 sp (EN.IteT K a) ⟨enumL 0 s.items, s.gd⟩ ι H := by
  intro ι1 h1 H1 R1 S1 good
  obtain ⟨vs, p1, r1⟩ := q.2 ι1 h1 H1 R1 S1 good
  have hl := r1.length
  refine ⟨fun i hi => ?_, ⟨vs, p1, by rw [enumL_len]; exact hl.symm⟩⟩
  rw [enumL_len] at hi
  refine ⟨⟨vs, vs[i]'(by rw [← hl]; exact hi), p1, by simp⟩, fun x H' y => ?_⟩
  obtain ⟨T, xv, rfl, hT, rfl, y2⟩ := y
  obtain ⟨d, h2, q2⟩ := r1.back (y2 vs p1)
  obtain ⟨x1, x2⟩ := newT (p := T) R1 (VRs.cons (d := D.int (i : Nat)) (v := V.int (i : Nat)) rfl (.one q2)) hT
  exact ⟨_, by rw [enumL_get, h2, Nat.zero_add]; rfl, x1, x2⟩
theorem zipT_len (a b : List D) : (zipT a b).length = min a.length b.length := by unfold zipT; rw [List.length_zipWith]
theorem zip_item {a b : List D} {i : Nat} {x y : D} (h1 : a[i]? = some x) (h2 : b[i]? = some y) : (zipT a b)[i]? = some (.tup [x, y]) := by
  unfold zipT; rw [List.getElem?_zipWith, h1, h2]
theorem good_app {s t : Src} {l : List D} {h : Hs} (g : (Src.mk l (s.gd ++ t.gd)).good h) : s.good h ∧ t.good h := ⟨fun p m => g p (List.mem_append_left _ m), fun p m => g p (List.mem_append_right _ m)⟩
theorem wk_zip {a b : Addr} {s t : Src} (q : Vw K H0 sp (fun H xs => SqL K H a xs) s ι H) (q' : Vw K H0 sp (fun H xs => SqL K H b xs) t ι H) : Wk K H0 sp (Itz K a b) ⟨zipT s.items t.items, s.gd ++ t.gd⟩ ι H := by
  intro ι1 h1 H1 R1 S1 good
  obtain ⟨g1, g2⟩ := good_app good
  obtain ⟨vs, p1, r1⟩ := q ι1 h1 H1 R1 S1 g1
  obtain ⟨us, p2, r2⟩ := q' ι1 h1 H1 R1 S1 g2
  have l1 := r1.length
  have l2 := r2.length
  refine ⟨fun i hi => ?_, ⟨vs, us, p1, p2, by rw [zipT_len]; omega⟩⟩
  rw [zipT_len] at hi
  refine ⟨⟨vs, us, vs[i]'(by omega), us[i]'(by omega), p1, p2, by simp, by simp⟩, fun x H' y => ?_⟩
  obtain ⟨T, xv, yv, rfl, hT, rfl, y1, y2⟩ := y
  obtain ⟨d, h2, z2⟩ := r1.back (y1 vs p1)
  obtain ⟨d', h3, z3⟩ := r2.back (y2 us p2)
  obtain ⟨x1, x2⟩ := newT (p := T) R1 (VRs.cons z2 (.one z3)) hT
  exact ⟨_, zip_item h2 h3, x1, x2⟩
theorem wk_zipT {a b : Addr} {s t : Src} (q : Vw K H0 sp (fun H xs => SqT K H a xs) s ι H) (q' : Vw K H0 sp (fun H xs => SqT K H b xs) t ι H) : Wk K H0 sp (RZ.ItzT K a b) ⟨zipT s.items t.items, s.gd ++ t.gd⟩ ι H := by
  intro ι1 h1 H1 R1 S1 good
  obtain ⟨g1, g2⟩ := good_app good
  obtain ⟨vs, p1, r1⟩ := q ι1 h1 H1 R1 S1 g1
  obtain ⟨us, p2, r2⟩ := q' ι1 h1 H1 R1 S1 g2
  have l1 := r1.length
  have l2 := r2.length
  refine ⟨fun i hi => ?_, ⟨vs, us, p1, p2, by rw [zipT_len]; omega⟩⟩
  rw [zipT_len] at hi
  refine ⟨⟨vs, us, vs[i]'(by omega), us[i]'(by omega), p1, p2, by simp, by simp⟩, fun x H' y => ?_⟩
  obtain ⟨T, xv, yv, rfl, hT, rfl, y1, y2⟩ := y
  obtain ⟨d, h2, z2⟩ := r1.back (y1 vs p1)
  obtain ⟨d', h3, z3⟩ := r2.back (y2 us p2)
  obtain ⟨x1, x2⟩ := newT (p := T) R1 (VRs.cons z2 (.one z3)) hT
  exact ⟨_, zip_item h2 h3, x1, x2⟩
end
def fEnum (fa : FA) : FI := fun env h => (fa env h).bnd fun xs h1 => match xs with
  | [x] => match bs h1 x with
    | some s => .ok ⟨enumL 0 s.items, s.gd⟩ h1
    | none => .no
  | _ => .no
def D.isTup : D → Bool
  | .tup _ => true
  | _ => false
def fZip (fa : FA) : FI := fun env h => (fa env h).bnd fun xs h1 => match xs with
  | [x, y] => if x.isTup = y.isTup then match bs h1 x, bs h1 y with
      | some s, some t => .ok ⟨zipT s.items t.items, s.gd ++ t.gd⟩ h1
      | _, _ => .no
    else .no
  | _ => .no
section
variable {g : G} {W : Wx}
theorem sim_enum {ta : TA} {fa : FA} (ha : SimA g W ta fa) : SimI g W (EN.iEnumT g.K ta) (fEnum fa) := by
  intro H0 sp ι h H env σ Q R E w
  refine ha H0 sp ι h H env σ _ R E (WP.bnd w fun xs h1 ι1 H1 R1 S1 w1 vs q => ?_)
  split at w1
  · obtain ⟨v, rfl, q1⟩ := q.oneE
    rename_i x
    cases hs : bs h1 x with
    | none => simp only [hs] at w1; exact w1.elim
    | some s =>
      simp only [hs] at w1
      obtain ⟨a, rfl, z | z⟩ := vw_of R1 q1 hs
      · obtain ⟨xs, p⟩ := z.1
        exact ⟨a, xs, rfl, .inl ⟨p, w1.here R1 _ (wk_enum z)⟩⟩
      · obtain ⟨xs, p⟩ := z.1
        exact ⟨a, xs, rfl, .inr ⟨p, w1.here R1 _ (wk_enumT z)⟩⟩
  · exact w1.elim
theorem bs_tup {h : Hs} {x : D} {s : Src} {K : PySem.W.Frag} {H0 : Hp} {sp ι : List Addr} {H : Hp} {v : V} (R : Rel K H0 sp ι h H) (q : VR K ι H x v) (e : bs h x = some s) :
    (x.isTup = true → ∃ a, v = .ref a ∧ (∃ xs, SqT K H a xs) ∧ Vw K H0 sp (fun H xs => SqT K H a xs) s ι H) ∧ (x.isTup = false → ∃ a, v = .ref a ∧ (∃ xs, SqL K H a xs) ∧ Vw K H0 sp (fun H xs => SqL K H a xs) s ι H) := by
  cases x with
  | tup ds =>
    refine ⟨fun _ => ?_, fun z => by cases z⟩
    cases e
    obtain ⟨a, vs, rfl, p, r⟩ := q.tupE
    exact ⟨a, rfl, ⟨vs, p⟩, fun ι1 h1 H1 R1 S1 _ => ⟨vs, sqT_step S1 p, VRs.mono S1 _ _ r⟩⟩
  | lst ds =>
    refine ⟨fun z => by (have : false = true := z; cases this), fun _ => ?_⟩
    cases e
    unfold VR at q
    obtain ⟨a, vs, rfl, p, na, r⟩ := q
    exact ⟨a, rfl, ⟨vs, SqL.of p⟩, fun ι1 h1 H1 R1 S1 _ => ⟨vs, SqL.of (S1.keep _ _ p na).1, VRs.mono S1 _ _ r⟩⟩
  | ref n =>
    refine ⟨fun z => by (have : false = true := z; cases this), fun _ => ?_⟩
    unfold bs at e
    cases hn : h[n]? with
    | none => simp only [hn] at e; cases e
    | some o =>
      simp only [hn] at e
      cases o with
      | dct b => cases e
      | lst ds =>
        cases e
        unfold VR at q
        obtain ⟨a, rfl, e2⟩ := q
        obtain ⟨b, e3, vs, p, r⟩ := R.ob _ _ hn
        rw [e2] at e3; cases e3
        refine ⟨a, rfl, ⟨vs, SqL.of p⟩, fun ι1 h1 H1 R1 S1 good => ?_⟩
        obtain ⟨b, e4, vs', p1, r1⟩ := R1.ob _ _ (good (n, ds) (by simp))
        rw [S1.pre _ _ e2] at e4; cases e4
        exact ⟨vs', SqL.of p1, r1⟩
  | _ => cases e
theorem sim_zip {ta : TA} {fa : FA} (ha : SimA g W ta fa) : SimI g W (RZ.iZipA g.K ta) (fZip fa) := by
  intro H0 sp ι h H env σ Q R E w
  refine ha H0 sp ι h H env σ _ R E (WP.bnd w fun xs h1 ι1 H1 R1 S1 w1 vs q => ?_)
  split at w1
  · rename_i x y
    obtain ⟨v, v', rfl, q1, q2⟩ := q.twoE
    obtain ⟨hc, w1⟩ := ifN w1
    cases hs : bs h1 x with
    | none => simp only [hs] at w1; exact w1.elim
    | some s =>
      cases ht : bs h1 y with
      | none => simp only [hs, ht] at w1; exact w1.elim
      | some t =>
        simp only [hs, ht] at w1
        cases hx : x.isTup with
        | true =>
          obtain ⟨a, rfl, ⟨xs, p⟩, z⟩ := (bs_tup R1 q1 hs).1 hx
          obtain ⟨b, rfl, ⟨ys, p'⟩, z'⟩ := (bs_tup R1 q2 ht).1 (hc ▸ hx)
          exact ⟨a, b, xs, ys, rfl, .inr ⟨p, p', w1.here R1 _ (wk_zipT z z')⟩⟩
        | false =>
          obtain ⟨a, rfl, ⟨xs, p⟩, z⟩ := (bs_tup R1 q1 hs).2 hx
          obtain ⟨b, rfl, ⟨ys, p'⟩, z'⟩ := (bs_tup R1 q2 ht).2 (hc ▸ hx)
          exact ⟨a, b, xs, ys, rfl, .inl ⟨p, p', w1.here R1 _ (wk_zip z z')⟩⟩
  · exact w1.elim
/-! ### x[::-1] -/
def revD (x : D) (h : Hs) : R D := match x with
  | .tup ds => .ok (.tup ds.reverse) h
  | x => match lof h x with
    | some ds => .ok (.ref h.length) (h ++ [.lst ds.reverse])
    | none => .no
def fRev (fe fs : FE) : FE := fun env h => (fe env h).bnd fun x h1 => (fs env h1).bnd fun y h2 => match y with
  | .int i => if i = -1 then revD x h2 else .no
  | _ => .no
theorem VRs.rev {K : PySem.W.Frag} {ι : List Addr} {H : Hp} : ∀ {ds : List D} {vs : List V}, VRs K ι H ds vs → VRs K ι H ds.reverse vs.reverse
  | [], vs, h => by rw [VRs.nil_iff.mp h]; exact VRs.nil_iff.mpr rfl
  | d :: ds, vs, h => by
    obtain ⟨v, r, rfl, h1, h2⟩ := VRs.cons_iff.mp h
    rw [List.reverse_cons, List.reverse_cons]
    exact VRs.app h2.rev (.one h1)
theorem sim_rev {te ts : TE} {fe fs : FE} (he : SimE g W te fe) (hs : SimE g W ts fs) : SimE g W (fun σ H Q => te σ H fun x H1 => ts σ H1 fun y H2 => y = .int (-1) ∧ SR.kRev g.K x H2 Q) (fRev fe fs) := by
  intro H0 sp ι h H env σ Q R E w
  refine he H0 sp ι h H env σ _ R E (WP.bnd w fun x h1 ι1 H1 R1 S1 w1 v1 q1 => ?_)
  refine hs H0 sp ι1 h1 H1 env σ _ R1 (E.mono S1) (WP.bnd w1 fun y h2 ι2 H2 R2 S2 w2 v2 q2 => ?_)
  have q3 := VR.mono S2 _ _ q1
  split at w2
  · obtain ⟨hc, w3⟩ := ifN w2
    have e : v2 = .int _ := q2
    clear w2 w1 w
    subst e hc
    refine ⟨rfl, ?_⟩
    unfold revD at w3
    split at w3
    · obtain ⟨a, vs, rfl, p, r⟩ := q3.tupE
      refine ⟨a, vs, rfl, .inl ⟨p, fun n hn => ?_⟩⟩
      obtain ⟨x1, x2⟩ := newT R2 r.rev hn
      exact w3.at x1 _ x2
    · split at w3
      · rename_i ds e1
        obtain ⟨a, vs, rfl, p, r⟩ := lof_ok R2 q3 e1
        refine ⟨a, vs, rfl, .inr ⟨SqL.of p, fun n hn => ?_⟩⟩
        obtain ⟨x1, x2⟩ := newL R2 r.rev hn
        exact w3.at x1 _ x2
      · exact w3.elim
  · exact w2.elim
/-! ### list(range), tuple(range) -/
def fRL1 (tup : Bool) (fe : FE) : FE := fun env h => (fe env h).bnd fun x h1 => match x with
  | .int j => if 0 ≤ j ∧ j ≤ 16777216 then (if tup = true then .ok (.tup (rangeL 0 j.toNat)) h1 else .ok (.ref h1.length) (h1 ++ [.lst (rangeL 0 j.toNat)])) else .no
  | _ => .no
def fRL2 (tup : Bool) (fa fb : FE) : FE := fun env h => (fa env h).bnd fun x h1 => (fb env h1).bnd fun y h2 => match x, y with
  | .int i, .int j => if 0 ≤ i ∧ i ≤ 16777216 ∧ 0 ≤ j ∧ j ≤ 16777216 then (if tup = true then .ok (.tup (rangeL i (j - i).toNat)) h2 else .ok (.ref h2.length) (h2 ++ [.lst (rangeL i (j - i).toNat)])) else .no
  | _, _ => .no
theorem vrs_range {K : PySem.W.Frag} {ι : List Addr} {H : Hp} (a b : Int) : VRs K ι H (rangeL a (b - a).toNat) (rgV a b) := by
  unfold rangeL rgV
  generalize List.range (b - a).toNat = l
  induction l with
  | nil => exact VRs.nil_iff.mpr rfl
  | cons i r ih => exact .cons rfl ih
theorem sim_lstRg1 {ta : TE} {fa : FE} (ha : SimE g W ta fa) : SimE g W (tLstRg (tRg1 ta)) (fRL1 false fa) := by
  intro H0 sp ι h H env σ Q R E w
  refine ha H0 sp ι h H env σ _ R E (WP.bnd w fun x h1 ι1 H1 R1 S1 w1 v q => ?_)
  split at w1
  · rename_i j
    obtain ⟨⟨j0, j1⟩, w1⟩ := ifN w1
    rw [if_neg Bool.false_ne_true] at w1
    have e : v = .int _ := q
    subst e
    refine ⟨_, rfl, .of_le (by omega) j1 (by omega) j0, fun n hn => ?_⟩
    have r := vrs_range (K := g.K) (ι := ι1) (H := H1) 0 j
    rw [Int.sub_zero] at r
    obtain ⟨x1, x2⟩ := newL R1 r hn
    exact w1.at x1 _ x2
  · exact w1.elim
theorem sim_tupRg1 {ta : TE} {fa : FE} (ha : SimE g W ta fa) : SimE g W (tTupRg (tRg1 ta)) (fRL1 true fa) := by
  intro H0 sp ι h H env σ Q R E w
  refine ha H0 sp ι h H env σ _ R E (WP.bnd w fun x h1 ι1 H1 R1 S1 w1 v q => ?_)
  split at w1
  · rename_i j
    obtain ⟨⟨j0, j1⟩, w1⟩ := ifN w1
    rw [if_pos rfl] at w1
    have e : v = .int _ := q
    subst e
    refine ⟨_, rfl, .of_le (by omega) j1 (by omega) j0, fun n hn => ?_⟩
    have r := vrs_range (K := g.K) (ι := ι1) (H := H1) 0 j
    rw [Int.sub_zero] at r
    obtain ⟨x1, x2⟩ := newT R1 r hn
    exact w1.at x1 _ x2
  · exact w1.elim
theorem sim_lstRg2 {ta tb : TE} {fa fb : FE} (ha : SimE g W ta fa) (hb : SimE g W tb fb) : SimE g W (tLstRg (tRg2 ta tb)) (fRL2 false fa fb) := by
  intro H0 sp ι h H env σ Q R E w
  refine ha H0 sp ι h H env σ _ R E (WP.bnd w fun x h1 ι1 H1 R1 S1 w1 v q => ?_)
  refine hb H0 sp ι1 h1 H1 env σ _ R1 (E.mono S1) (WP.bnd w1 fun y h2 ι2 H2 R2 S2 w2 v2 q2 => ?_)
  split at w2
  · obtain ⟨⟨i0, i1, j0, j1⟩, w2⟩ := ifN w2
    rw [if_neg Bool.false_ne_true] at w2
    have e : v = .int _ := q
    have e' : v2 = .int _ := q2
    subst e e'
    refine ⟨_, _, rfl, rfl, .of_le i0 j1 i1 j0, fun n hn => ?_⟩
    obtain ⟨x1, x2⟩ := newL R2 (vrs_range _ _) hn
    exact w2.at x1 _ x2
  · exact w2.elim
theorem sim_tupRg2 {ta tb : TE} {fa fb : FE} (ha : SimE g W ta fa) (hb : SimE g W tb fb) : SimE g W (tTupRg (tRg2 ta tb)) (fRL2 true fa fb) := by
  intro H0 sp ι h H env σ Q R E w
  refine ha H0 sp ι h H env σ _ R E (WP.bnd w fun x h1 ι1 H1 R1 S1 w1 v q => ?_)
  refine hb H0 sp ι1 h1 H1 env σ _ R1 (E.mono S1) (WP.bnd w1 fun y h2 ι2 H2 R2 S2 w2 v2 q2 => ?_)
  split at w2
  · obtain ⟨⟨i0, i1, j0, j1⟩, w2⟩ := ifN w2
    rw [if_pos rfl] at w2
    have e : v = .int _ := q
    have e' : v2 = .int _ := q2
    subst e e'
    refine ⟨_, _, rfl, rfl, .of_le i0 j1 i1 j0, fun n hn => ?_⟩
    obtain ⟨x1, x2⟩ := newT R2 (vrs_range _ _) hn
    exact w2.at x1 _ x2
  · exact w2.elim
end
section
variable {X : Cx}
theorem kEnum (K) {e : Expr} {ta : TA} {p pos tpos : Pos} {elts : List Expr} {kk : Nat} (hg : Gl X "enumerate") (hm : X.mg "enumerate" = none) (ha : PA X [e] ta) (hs : starEach [e] X.env = [(false, eval e X.env)] := by rfl) (h : X.K = K := by rfl) :
    PI X (.Tuple elts kk tpos) (.Call (.Name "enumerate" p) [e] [] pos) (EN.iEnumT K ta) := h ▸ EN.pi_enumU hg hm ha hs
theorem kZipI (K) {e e2 : Expr} {ta : TA} {p pos tpos : Pos} {elts : List Expr} {kk : Nat} (hg : Gl X "zip") (hm : X.mg "zip" = none) (ha : PA X [e, e2] ta) (hs : starEach [e, e2] X.env = (false, eval e X.env) :: starEach [e2] X.env := by rfl)
    (hpl : (backTo pos (starEach [e2] X.env)).any (·.1) = false := by rfl) (h : X.K = K := by rfl) : PI X (.Tuple elts kk tpos) (.Call (.Name "zip" p) [e, e2] [] pos) (RZ.iZipA K ta) := h ▸ RZ.pi_zipA hg hm ha hs hpl
theorem kRevE (K) {e st : Expr} {te ts : TE} {pos p2 : Pos} (he : PE X e te) (hst : PE X st ts) (h : X.K = K := by rfl) : PE X (.Subscript e (.Slice none none (some st) p2) pos) (fun σ H Q => te σ H fun x H1 => ts σ H1 fun y H2 => y = .int (-1) ∧ SR.kRev K x H2 Q) :=
  h ▸ SR.pe_rev he hst (ops := fun v u => [v, u]) (fun _ _ => rfl)
end
end PF
namespace PF
open PySem PySem.Spec PyProof.Rows L2
/-- a comprehension whose parts leave the heap as it is -/
theorem lc_ev {fi : FI} {fg : FG} {fc : FT} {fe : FE} {vs : List Nat} {env : En} {h0 : Hs} {l : List D} {gd : List (Nat × List D)} (f : D → Option D) (hi : fi env h0 = .ok ⟨l, gd⟩ h0) (hg : ∀ p ∈ gd, h0[p.1]? = some (.lst p.2)) (hl : l.length ≤ 16777216)
    (hs : ∀ d ∈ l, ∀ acc, ∃ e, fg d (wipeE env vs) (h0 ++ [.lst acc]) = .ok e (h0 ++ [.lst acc]) ∧ (match f d with
      | some y => fc e (h0 ++ [.lst acc]) = .ok true (h0 ++ [.lst acc]) ∧ fe e (h0 ++ [.lst acc]) = .ok y (h0 ++ [.lst acc])
      | none => fc e (h0 ++ [.lst acc]) = .ok false (h0 ++ [.lst acc]))) :
    fLc fi fg fc fe vs env h0 = .ok (.ref h0.length) (h0 ++ [.lst (l.filterMap f)]) := by
  obtain ⟨h', z1, ⟨acc', rfl⟩, z3⟩ := lc_gives (fg := fg) (fc := fc) (fe := fe) (s := ⟨l, gd⟩) (n := h0.length) (env := wipeE env vs) (fun h => ∃ acc, h = h0 ++ [.lst acc]) (fun h i p m => by
      obtain ⟨acc, rfl⟩ := i
      have := hg p m
      rw [List.getElem?_append_left (by exact (List.getElem?_eq_some_iff.mp this).1)]; exact this) f l (h0 ++ [.lst []]) [] ⟨_, rfl⟩ (by simp) (by simpa using hl) (fun d m h acc il hn => by
      obtain ⟨acc0, rfl⟩ := il
      obtain ⟨e, q1, q2⟩ := hs d m acc0
      refine ⟨e, _, h0 ++ [.lst acc0], q1, ?_⟩
      cases hf : f d with
      | none => rw [hf] at q2; exact ⟨q2, hn, _, rfl⟩
      | some y =>
        rw [hf] at q2
        exact ⟨q2.1, _, q2.2, hn, _, by simp; rfl⟩)
  have z4 : acc' = l.filterMap f := by
    rw [List.getElem?_append_right (by omega)] at z3
    simp at z3
    exact z3
  subst z4
  unfold fLc
  rw [hi]
  simp only [bnd_ok]
  rw [z1]
  rfl
theorem fm_map {α β : Type} (f : α → β) : ∀ l : List α, l.filterMap (fun a => some (f a)) = l.map f
  | [] => rfl
  | a :: r => by rw [List.filterMap_cons, fm_map f r]; rfl
/-- the same, no test -/
theorem lc_map {fi : FI} {fg : FG} {fe : FE} {vs : List Nat} {env : En} {h0 : Hs} {l : List D} {gd : List (Nat × List D)} (f : D → D) (hi : fi env h0 = .ok ⟨l, gd⟩ h0) (hg : ∀ p ∈ gd, h0[p.1]? = some (.lst p.2)) (hl : l.length ≤ 16777216)
    (hs : ∀ d ∈ l, ∀ acc, ∃ e, fg d (wipeE env vs) (h0 ++ [.lst acc]) = .ok e (h0 ++ [.lst acc]) ∧ fe e (h0 ++ [.lst acc]) = .ok (f d) (h0 ++ [.lst acc])) :
    fLc fi fg fYes fe vs env h0 = .ok (.ref h0.length) (h0 ++ [.lst (l.map f)]) := by
  rw [← fm_map]
  exact lc_ev (fun d => some (f d)) hi hg hl fun d m acc => by
    obtain ⟨e, q1, q2⟩ := hs d m acc
    exact ⟨e, q1, rfl, q2⟩
/-- an own list that is new and last, alone kept -/
theorem tmp_one {h junk : Hs} {o : Ob} {m : Nat} (hm : m = h.length + junk.length) (hb : h.all (belO h.length) = true) (ho : belO h.length o = true) : tmpR h (.ok (.ref m) (h ++ junk ++ [o])) = .ok (.ref h.length) (h ++ [o]) := by
  subst hm
  unfold tmpR
  have e1 : (h ++ junk ++ [o]).take h.length = h := by rw [List.append_assoc, List.take_left]
  have e2 : (h ++ junk ++ [o])[h.length + junk.length]? = some o := by
    rw [List.getElem?_append_right (by simp)]; simp
  simp only [e1, hb, if_true, D.pur, Bool.false_eq_true, if_false, e2, ho]
  rw [if_neg (by omega)]
theorem tmp_cut {h junk : Hs} {d : D} (hp : d.pur = true) (hb : h.all (belO h.length) = true) : tmpR h (.ok d (h ++ junk)) = .ok d h := tmp_pur hp List.take_left hb
theorem purs_of {l : List D} (h : ∀ d ∈ l, d.pur = true) : purs l = true := by rw [purs_all, List.all_eq_true]; exact h
theorem nors_of {l : List D} (h : ∀ d ∈ l, d.nor = true) : nors l = true := by rw [nors_all, List.all_eq_true]; exact h
theorem dpts_le {n : Nat} : ∀ {l : List D}, (∀ d ∈ l, dpt d ≤ n) → dpts l ≤ n
  | [], _ => by rw [dpts]; omega
  | d :: r, h => by
    rw [dpts]
    have h1 := h d List.mem_cons_self
    have h2 := dpts_le fun d m => h d (List.mem_cons_of_mem _ m)
    omega
theorem dszs_le {n : Nat} : ∀ {l : List D}, (∀ d ∈ l, dsz d ≤ n) → dszs l ≤ n * l.length
  | [], _ => by rw [dszs]; omega
  | d :: r, h => by
    rw [dszs, List.length_cons, Nat.mul_succ]
    have h1 := h d List.mem_cons_self
    have h2 := dszs_le fun d m => h d (List.mem_cons_of_mem _ m)
    omega
theorem range_purs (lo : Int) (n : Nat) : purs (rangeL lo n) = true := purs_of fun d m => by
  obtain ⟨i, _, rfl⟩ := mem_range m; rfl
theorem bel_pur {n : Nat} {o : Ob} (h : o.pur = true) : belO n o = true := by
  cases o with
  | lst ds => exact bels_nors n _ (nors_of_purs _ h)
  | dct kvs =>
    have h' : (purs (kvs.map Prod.fst) && purs (kvs.map Prod.snd)) = true := h
    rw [Bool.and_eq_true] at h'
    show (bels n _ && bels n _) = true
    rw [bels_nors n _ (nors_of_purs _ h'.1), bels_nors n _ (nors_of_purs _ h'.2)]; rfl
theorem all_pur {h : Hs} {n : Nat} (hp : h.all Ob.pur = true) : h.all (belO n) = true := by
  rw [List.all_eq_true] at hp ⊢
  exact fun o m => bel_pur (hp o m)
/-- in a heap of plain objects a plain temporary leaves nothing, a new list itself alone -/
theorem tmp_p {h junk : Hs} {d : D} (hh : h.all Ob.pur = true) (hp : d.pur = true) : tmpR h (.ok d (h ++ junk)) = .ok d h := tmp_cut hp (all_pur hh)
theorem tmp_l {h junk : Hs} {m : Nat} {ds : List D} (hh : h.all Ob.pur = true) (hm : m = h.length + junk.length) (hp : purs ds = true) : tmpR h (.ok (.ref m) (h ++ junk ++ [.lst ds])) = .ok (.ref h.length) (h ++ [.lst ds]) := tmp_one hm (all_pur hh) (bel_pur (o := .lst ds) hp)
end PF
namespace PF
open PySem PySem.Spec PyProof.Rows L2
/-- the bag stands first, its cells behind it: as a def that is handed the bag has them -/
abbrev BG (cs : List Int) (b : Bn) (rest : Hs) : Hs := bagO b 1 :: .lst (cs.map D.int) :: rest
theorem callG_ev {F : List D → List Int → Bn → RB} {fa : FA} {env : En} {cs : List Int} {b b' : Bn} {rest rest' : Hs} {r ds : List D} {d : D} (h1 : fa env (BG cs b rest) = .ok (.ref 0 :: r) (BG cs b rest')) (h2 : dall (dref (.dct [] :: .dct [] :: rest') 6) r = some ds)
    (h3 : F ds cs b = .val d b') : fCallB F fa env (BG cs b rest) = .ok d (BG cs b' rest') := by
  have hr : rdB 0 (BG cs b rest') = some (b, 1, cs) := by simp [rdB, bagO]
  unfold fCallB
  rw [h1]
  simp only [bnd_ok]
  rw [hr]
  simp only []
  rw [if_pos (by decide)]
  have hm : mask (BG cs b rest') 0 1 = .dct [] :: .dct [] :: rest' := rfl
  rw [hm, h2]
  simp only []
  rw [h3]
  simp only [setB, BG, List.set_cons_zero]
theorem callG_obj {F : List D → List Int → Bn → RB} {fa : FA} {env : En} {cs : List Int} {b b' : Bn} {rest rest' : Hs} {r ds : List D} {o : Ob} (h1 : fa env (BG cs b rest) = .ok (.ref 0 :: r) (BG cs b rest')) (h2 : dall (dref (.dct [] :: .dct [] :: rest') 6) r = some ds)
    (h3 : F ds cs b = .obj o b') : fCallB F fa env (BG cs b rest) = .ok (.ref (rest'.length + 2)) (BG cs b' (rest' ++ [o])) := by
  have hr : rdB 0 (BG cs b rest') = some (b, 1, cs) := by simp [rdB, bagO]
  unfold fCallB
  rw [h1]
  simp only [bnd_ok]
  rw [hr]
  simp only []
  rw [if_pos (by decide)]
  have hm : mask (BG cs b rest') 0 1 = .dct [] :: .dct [] :: rest' := rfl
  rw [hm, h2]
  simp only []
  rw [h3]
  simp only [setB, BG, List.set_cons_zero, List.length_cons, List.cons_append]
theorem callB_obj {F : List D → List Int → Bn → RB} {fa : FA} {env : En} {cs : List Int} {b b' : Bn} {rest rest' : Hs} {r ds : List D} {o : Ob} (h1 : fa env (BH cs b rest) = .ok (.ref 1 :: r) (BH cs b rest')) (h2 : dall (dref (.dct [] :: .dct [] :: rest') 6) r = some ds)
    (h3 : F ds cs b = .obj o b') : fCallB F fa env (BH cs b rest) = .ok (.ref (rest'.length + 2)) (BH cs b' (rest' ++ [o])) := by
  have hr : rdB 1 (BH cs b rest') = some (b, 0, cs) := by simp [rdB, bagO]
  unfold fCallB
  rw [h1]
  simp only [bnd_ok]
  rw [hr]
  simp only []
  rw [if_pos (by decide)]
  have hm : mask (BH cs b rest') 1 0 = .dct [] :: .dct [] :: rest' := rfl
  rw [hm, h2]
  simp only []
  rw [h3]
  simp only [setB, BH, List.set_cons_succ, List.set_cons_zero, List.length_cons, List.cons_append]
theorem belBG (n : Nat) (hn : 2 ≤ n) (cs : List Int) (b : Bn) : belO n (bagO b 1) = true ∧ belO n (.lst (cs.map D.int)) = true := by
  refine ⟨?_, bels_int n cs⟩
  simp [bagO, belO, bels, bel]; omega
theorem all_BG (n : Nat) (hn : 2 ≤ n) (cs : List Int) (b : Bn) (rest : Hs) (h : rest.all (belO n) = true) : (BG cs b rest).all (belO n) = true := by
  simp only [BG, List.all_cons, (belBG n hn cs b).1, (belBG n hn cs b).2, h, Bool.and_self]
theorem tmp_BG {cs : List Int} {b b' : Bn} {rest : Hs} {d : D} (hp : d.pur = true) (hr : rest.all Ob.pur = true) (junk : Hs) : tmpR (BG cs b rest) (.ok d (BG cs b' (rest ++ junk))) = .ok d (BG cs b' rest) :=
  tmp_pur hp (by simp [BG]) (all_BG _ (by simp [BG]) cs b' rest (all_pur hr))
theorem tmp_BH' {cs : List Int} {b b' : Bn} {rest : Hs} {d : D} (hp : d.pur = true) (hr : rest.all Ob.pur = true) (junk : Hs) : tmpR (BH cs b rest) (.ok d (BH cs b' (rest ++ junk))) = .ok d (BH cs b' rest) :=
  tmp_pur hp (by simp [BH]) (all_BH _ (by simp [BH]) cs b' rest (all_pur hr))
theorem tmpB_BH {cs : List Int} {b b' : Bn} {rest : Hs} {d : Bool} (hr : rest.all Ob.pur = true) (junk : Hs) : tmpB (BH cs b rest) (.ok d (BH cs b' (rest ++ junk))) = .ok d (BH cs b' rest) :=
  tmpB_cut (by simp [BH]) (all_BH _ (by simp [BH]) cs b' rest (all_pur hr))
theorem tmpL_BH {cs : List Int} {b b' : Bn} {rest junk : Hs} {m : Nat} {ds : List D} (hr : rest.all Ob.pur = true) (hm : m = rest.length + 2 + junk.length) (hp : purs ds = true) : tmpR (BH cs b rest) (.ok (.ref m) (BH cs b' (rest ++ junk ++ [.lst ds]))) = .ok (.ref (rest.length + 2)) (BH cs b' (rest ++ [.lst ds])) := by
  subst hm
  unfold tmpR
  have e1 : (BH cs b' (rest ++ junk ++ [.lst ds])).take (BH cs b rest).length = BH cs b' rest := by simp [BH]
  have hb := all_BH (BH cs b rest).length (by simp [BH]) cs b' rest (all_pur hr)
  have e2 : (BH cs b' (rest ++ junk ++ [Ob.lst ds]))[rest.length + 2 + junk.length]? = some (.lst ds) := by
    rw [show rest.length + 2 + junk.length = rest.length + junk.length + 1 + 1 by omega]
    simp only [BH, List.getElem?_cons_succ]
    rw [List.getElem?_append_right (by simp)]; simp
  have hlen : (BH cs b rest).length = rest.length + 2 := by simp [BH]
  have hbel : belO (rest.length + 2) (Ob.lst ds) = true := bel_pur (o := .lst ds) hp
  rw [hlen] at e1 hb
  simp only [hlen, e1]
  rw [if_pos hb, if_neg (by simp [D.pur])]
  rw [if_neg (by omega), e2]
  show (if belO (rest.length + 2) (Ob.lst ds) = true then _ else _) = _
  rw [if_pos hbel]
  rfl
/-! ### mixing -/
theorem neD_ref {h : Hs} {n m : Nat} {a b : List D} (e : h[n]? = some (.lst a)) (e' : h[m]? = some (.lst b)) (hn : nors a = true) (hm : nors b = true) (da : dpts a ≤ 59) (db : dpts b ≤ 59) : neD (.ref n) (.ref m) h = .ok (.bl (!deqs a b)) h := by
  unfold neD
  rw [dref_ref e hn, dref_ref e' hm]
  simp only []
  rw [if_pos ⟨by rw [dpt]; omega, by rw [dpt]; omega⟩, deq]
noncomputable def mxT : FT := (fTmpB (fTest (fOp2 neD (fVar 2) (fLst fNil))))
noncomputable def mxB (F : List D → List Int → Bn → RB) : FS := (fDrop (fBM "list" appendD (fVar 3) (fCons (fTmp (fBM "list" popAtD (fVar 2) (fCons (fTmp (fCallB F (fCons (fVar 0) (fCons (fCB lenD (fCons (fVar 2) fNil)) fNil)))) fNil))) fNil)))
noncomputable def fsMixed (F : List D → List Int → Bn → RB) : FS := (fSeq (fPar 2 3 (fCons (fCB listD (fCons (fVar 1) fNil)) (fCons (fLst fNil) fNil)))
    (fSeq (fWhile mxT (mxB F))
    (fRet (fVar 3))))
theorem seqIndex_nat {k n : Nat} (h : k < n) : seqIndex? (k : Int) n = some k := by
  have h1 : ¬ ((k : Int) < 0) := by omega
  have h2 : (decide (0 ≤ (k : Int)) && decide ((k : Int) < (n : Int))) = true := by simp; omega
  simp only [seqIndex?, if_neg h1, h2, if_true, Int.toNat_natCast]
theorem erase_perm {l : List D} {k : Nat} {x : D} (h : l[k]? = some x) : l.Perm (x :: l.eraseIdx k) := by
  induction l generalizing k with
  | nil => simp at h
  | cons a r ih =>
    cases k with
    | zero => simp at h; subst h; exact List.Perm.refl _
    | succ k =>
      have := ih (k := k) (by simpa using h)
      rw [List.eraseIdx_cons_succ]
      exact (List.Perm.cons a this).trans (List.Perm.swap x a _)
theorem mx_test (cs : List Int) (o1 : Option D) (left acc : List D) (b : Bn) (h1 : purs left = true) (h2 : purs acc = true) (h3 : dpts left ≤ 59) : mxT [some (.ref 0), o1, some (.ref 2), some (.ref 3)] (BG cs b [.lst left, .lst acc]) = .ok (!left.isEmpty) (BG cs b [.lst left, .lst acc]) := by
  have e : neD (.ref 2) (.ref 4) (BG cs b [.lst left, .lst acc, .lst []]) = .ok (.bl (!left.isEmpty)) (BG cs b [.lst left, .lst acc, .lst []]) := by
    rw [neD_ref (a := left) (b := []) rfl rfl (nors_of_purs _ h1) rfl h3 (by decide), deqs_nil]
  unfold mxT
  simp (decide := true) only [fTmpB, fTest, fOp2, fVar, fLst, fNil, bnd_ok, List.getElem?_cons_succ, List.getElem?_cons_zero, List.length_cons, List.length_nil, if_true, List.cons_append, List.nil_append, Nat.reduceAdd, Nat.zero_add]
  rw [e]
  simp only [bnd_ok]
  exact tmpB_cut (k := BG cs b [.lst left, .lst acc]) rfl (all_BG 4 (by decide) cs b _ (all_pur (by simp [Ob.pur, h1, h2])))

theorem mx_body (F : List D → List Int → Bn → RB) (cs : List Int) (o1 : Option D) (left acc : List D) (b b' : Bn) (k : Nat) (x : D) (h1 : purs left = true) (h2 : purs acc = true) (hk : k < left.length) (hg : left[k]? = some x) (hl : left.length + acc.length ≤ 1000000) (e : F [.int left.length] cs b = .val (.int k) b') :
    mxB F [some (.ref 0), o1, some (.ref 2), some (.ref 3)] (BG cs b [.lst left, .lst acc]) = .ok (.nx [some (.ref 0), o1, some (.ref 2), some (.ref 3)]) (BG cs b' [.lst (left.eraseIdx k), .lst (acc ++ [x])]) := by
  have hpk : x.pur = true := by
    rw [purs_all, List.all_eq_true] at h1
    exact h1 _ (List.mem_of_getElem? hg)
  have hpe : purs (left.eraseIdx k) = true := by
    rw [purs_all, List.all_eq_true] at h1 ⊢
    exact fun d m => h1 d (List.mem_of_mem_eraseIdx m)
  have c1 : fCallB F (fCons (fVar 0) (fCons (fCB lenD (fCons (fVar 2) fNil)) fNil)) [some (.ref 0), o1, some (.ref 2), some (.ref 3)] (BG cs b [.lst left, .lst acc]) = .ok (.int k) (BG cs b' [.lst left, .lst acc]) :=
    callG_ev (r := [.int left.length]) (ds := [.int left.length]) (by simp only [fCons, fVar, fNil, fCB, lenD, lof, bnd_ok, BG, List.getElem?_cons_succ, List.getElem?_cons_zero]) rfl e
  have c2 : tmpR (BG cs b [.lst left, .lst acc]) (.ok (.int k) (BG cs b' [.lst left, .lst acc])) = .ok (.int k) (BG cs b' [.lst left, .lst acc]) := tmp_pur rfl rfl (all_BG 4 (by decide) cs b' _ (all_pur (by simp [Ob.pur, h1, h2])))
  have c3 : tmpR (BG cs b [.lst left, .lst acc]) (.ok x (BG cs b' [.lst (left.eraseIdx k), .lst acc])) = .ok x (BG cs b' [.lst (left.eraseIdx k), .lst acc]) := tmp_pur hpk rfl (all_BG 4 (by decide) cs b' _ (all_pur (by simp [Ob.pur, hpe, h2])))
  have ca : acc.length < 16777216 := by omega
  have cp : popAtD (.ref 2) [.int k] (BG cs b' [.lst left, .lst acc]) = .ok x (BG cs b' [.lst (left.eraseIdx k), .lst acc]) := by
    have cb : (-9223372036854775808 ≤ (k : Int) ∧ (k : Int) < 9223372036854775808) := ⟨by omega, by omega⟩
    unfold popAtD
    simp only [own, BG, List.getElem?_cons_succ, List.getElem?_cons_zero]
    rw [if_pos cb, seqIndex_nat hk]
    simp only [hg, List.set_cons_succ, List.set_cons_zero]
  have c4 : fTmp (fCallB F (fCons (fVar 0) (fCons (fCB lenD (fCons (fVar 2) fNil)) fNil))) [some (.ref 0), o1, some (.ref 2), some (.ref 3)] (BG cs b [.lst left, .lst acc]) = .ok (.int k) (BG cs b' [.lst left, .lst acc]) := by
    unfold fTmp; rw [c1]; exact c2
  have c5 : fBM "list" popAtD (fVar 2) (fCons (fTmp (fCallB F (fCons (fVar 0) (fCons (fCB lenD (fCons (fVar 2) fNil)) fNil)))) fNil) [some (.ref 0), o1, some (.ref 2), some (.ref 3)] (BG cs b [.lst left, .lst acc]) = .ok x (BG cs b' [.lst (left.eraseIdx k), .lst acc]) := by
    have ty : tyD "list" (BG cs b [.lst left, .lst acc]) (.ref 2) = true := rfl
    have ea : fCons (fTmp (fCallB F (fCons (fVar 0) (fCons (fCB lenD (fCons (fVar 2) fNil)) fNil)))) fNil [some (.ref 0), o1, some (.ref 2), some (.ref 3)] (BG cs b [.lst left, .lst acc]) = .ok [.int k] (BG cs b' [.lst left, .lst acc]) := by
      rw [fCons, c4]; rfl
    have ev : fVar 2 [some (.ref 0), o1, some (.ref 2), some (.ref 3)] (BG cs b [.lst left, .lst acc]) = .ok (.ref 2) (BG cs b [.lst left, .lst acc]) := rfl
    rw [fBM, ev, bnd_ok, if_pos ty, ea, bnd_ok, cp]
  have c6 : fTmp (fBM "list" popAtD (fVar 2) (fCons (fTmp (fCallB F (fCons (fVar 0) (fCons (fCB lenD (fCons (fVar 2) fNil)) fNil)))) fNil)) [some (.ref 0), o1, some (.ref 2), some (.ref 3)] (BG cs b [.lst left, .lst acc]) = .ok x (BG cs b' [.lst (left.eraseIdx k), .lst acc]) := by
    unfold fTmp at c5 ⊢; rw [c5]; exact c3
  have c7 : appendD (.ref 3) [x] (BG cs b' [.lst (left.eraseIdx k), .lst acc]) = .ok .non (BG cs b' [.lst (left.eraseIdx k), .lst (acc ++ [x])]) := by
    unfold appendD
    show (if acc.length < 16777216 then _ else _) = _
    rw [if_pos ca]
    rfl
  have ty : tyD "list" (BG cs b [.lst left, .lst acc]) (.ref 3) = true := rfl
  unfold mxB
  simp only [fDrop, fBM, fVar, List.getElem?_cons_succ, List.getElem?_cons_zero, bnd_ok, ty, if_true]
  rw [show fCons (fTmp (fBM "list" popAtD (fVar 2) (fCons (fTmp (fCallB F (fCons (fVar 0) (fCons (fCB lenD (fCons (fVar 2) fNil)) fNil)))) fNil))) fNil [some (.ref 0), o1, some (.ref 2), some (.ref 3)] (BG cs b [.lst left, .lst acc]) = .ok [x] (BG cs b' [.lst (left.eraseIdx k), .lst acc]) by
    rw [fCons, c6]; rfl]
  simp only [bnd_ok, c7]
theorem mixed_loop (F : List D → List Int → Bn → RB) (hF : ∀ many, 1 ≤ many → many < 1073741824 → ∀ cs b, List.length cs ≤ 63 → ∃ v b', F [.int many] cs b = .val (.int v) b' ∧ 0 ≤ v ∧ v < many) (cs : List Int) (hc : cs.length ≤ 63) (o1 : Option D) :
    ∀ (n : Nat) (left acc : List D) (b : Bn), left.length = n → purs left = true → purs acc = true → dpts left ≤ 59 → left.length + acc.length ≤ 1000000 →
    ∃ l' b', whileN mxT (mxB F) (n + 1) [some (.ref 0), o1, some (.ref 2), some (.ref 3)] (BG cs b [.lst left, .lst acc]) = .ok (.nx [some (.ref 0), o1, some (.ref 2), some (.ref 3)]) (BG cs b' [.lst [], .lst l']) ∧ l'.Perm (acc ++ left) := by
  intro n
  induction n with
  | zero =>
    intro left acc b hl h1 h2 h3 h4
    have : left = [] := List.eq_nil_of_length_eq_zero hl
    subst this
    refine ⟨acc, b, ?_, by simp⟩
    unfold whileN
    rw [mx_test cs o1 [] acc b h1 h2 h3]
    rfl
  | succ n ih =>
    intro left acc b hl h1 h2 h3 h4
    obtain ⟨v, b', e, v0, v1⟩ := hF left.length (by omega) (by omega) cs b hc
    obtain ⟨k, rfl⟩ := Int.eq_ofNat_of_zero_le v0
    have hk : k < left.length := by omega
    have hg : left[k]? = some (left[k]) := List.getElem?_eq_getElem hk
    have hpk : (left[k]).pur = true := by
      have h1' := h1
      rw [purs_all, List.all_eq_true] at h1'
      exact h1' _ (List.getElem_mem hk)
    have hpm := erase_perm hg
    have hpe : purs (left.eraseIdx k) = true := by
      have h1' := h1
      rw [purs_all, List.all_eq_true] at h1' ⊢
      exact fun d m => h1' d (List.mem_of_mem_eraseIdx m)
    have hde : dpts (left.eraseIdx k) ≤ 59 := dpts_le fun d m => by
      have hm := List.mem_of_mem_eraseIdx m
      have : ∀ l : List D, d ∈ l → dpt d ≤ dpts l := fun l => by
        induction l with
        | nil => intro m; cases m
        | cons a r ih =>
          intro m
          rw [dpts]
          rcases List.mem_cons.mp m with z | z
          · subst z; omega
          · have := ih z; omega
      exact Nat.le_trans (this _ hm) h3
    have hle : (left.eraseIdx k).length = n := by rw [List.length_eraseIdx, if_pos hk, hl]; rfl
    obtain ⟨l', b'', z1, z2⟩ := ih (left.eraseIdx k) (acc ++ [left[k]]) b' hle hpe (by rw [purs_append, h2]; simp [hpk]) hde (by rw [List.length_append]; simp only [List.length_cons, List.length_nil]; omega)
    refine ⟨l', b'', ?_, z2.trans ?_⟩
    · have hne : (!left.isEmpty) = true := by
        cases left with
        | nil => simp at hk
        | cons _ _ => rfl
      have body := mx_body F cs o1 left acc b b' k _ h1 h2 hk hg h4 e
      unfold whileN
      rw [mx_test cs o1 left acc b h1 h2 h3, hne]
      simp only [bnd_ok, if_true]
      rw [body]
      exact z1
    · rw [List.append_assoc]
      exact List.Perm.append_left acc hpm.symm
theorem mixed_gen (F : List D → List Int → Bn → RB) (hF : ∀ many, 1 ≤ many → many < 1073741824 → ∀ cs b, List.length cs ≤ 63 → ∃ v b', F [.int many] cs b = .val (.int v) b' ∧ 0 ≤ v ∧ v < many) (ds : List D) (hp : purs ds = true) (hd : dpts ds ≤ 59) (hl : ds.length ≤ 1000000) (cs : List Int) (b : Bn) (hc : cs.length ≤ 63) :
    ∃ l' b', runB 2 4 (fsMixed F) [.lst ds] cs b = .obj (.lst l') b' ∧ l'.Perm ds := by
  obtain ⟨l', b', z1, z2⟩ := mixed_loop F hF cs hc (some (.lst ds)) ds.length ds [] b rfl hp rfl hd (by simpa using hl)
  refine ⟨l', b', ?_, by simpa using z2⟩
  have w := fWhile_eq z1 (fun z => z)
  have hpl : purs l' = true := by
    rw [purs_all, List.all_eq_true] at hp ⊢
    exact fun d m => hp d (by simpa using z2.mem_iff.mp m)
  have hr : rdB 0 (BG cs b' [.lst [], .lst l']) = some (b', 1, cs) := by simp [rdB, bagO]
  unfold runB fsMixed
  rw [if_pos (show [D.lst ds].length + 1 = 2 from rfl)]
  show (match fSeq _ _ [some (.ref 0), some (.lst ds), none, none] (BG cs b []) with
    | .ok (.nx _) h => toB cs (.val .non) h
    | .ok (.rt d) h => toB cs (toP 2 d h) h
    | _ => .no) = _
  rw [seqE (e := [some (.ref 0), some (.lst ds), some (.ref 2), some (.ref 3)]) (h1 := BG cs b [.lst ds, .lst []]) (by simp (decide := true) only [fPar, fCons, fNil, fCB, fLst, fVar, listD, lof, bnd_ok, BG, List.getElem?_cons_succ, List.getElem?_cons_zero, List.length_cons, List.length_nil, List.cons_append, List.nil_append, Nat.reduceAdd, Nat.zero_add, if_true, List.set_cons_succ, List.set_cons_zero]), seqE w]
  simp only [fRet, fVar, List.getElem?_cons_succ, List.getElem?_cons_zero, bnd_ok, toB, hr, if_true, toP, D.pur, Bool.false_eq_true, if_false, BG, Ob.pur, hpl]
  rw [if_neg (by decide)]
end PF
namespace PF
open PySem PySem.Spec PyProof.Rows L2
/-! ### x is True -/
def isBD : D → D → Hs → R D
  | .bl a, .bl b, h => .ok (.bl (decide (a = b))) h
  | _, _, _ => .no
def notBD : D → D → Hs → R D
  | .bl a, .bl b, h => .ok (.bl (!decide (a = b))) h
  | _, _, _ => .no
section
variable {g : G}
theorem sim_isB : SimR2 g (fun x y H Q => ∃ a b : Bool, x = .bl a ∧ y = .bl b ∧ Q (.bl (decide (a = b))) H) isBD := by
  intro H0 sp ι h H x y vx vy W Q R qx qy w
  unfold isBD at w
  split at w
  · have e : vx = .bl _ := qx
    have e' : vy = .bl _ := qy
    subst e e'
    exact ⟨_, _, rfl, rfl, w.here R _ rfl⟩
  · exact w.elim
theorem sim_notB : SimR2 g (fun x y H Q => ∃ a b : Bool, x = .bl a ∧ y = .bl b ∧ Q (.bl (!decide (a = b))) H) notBD := by
  intro H0 sp ι h H x y vx vy W Q R qx qy w
  unfold notBD at w
  split at w
  · have e : vx = .bl _ := qx
    have e' : vy = .bl _ := qy
    subst e e'
    exact ⟨_, _, rfl, rfl, w.here R _ rfl⟩
  · exact w.elim
end
theorem mem_enum {l : List D} {k : Nat} {d : D} (m : d ∈ enumL k l) : ∃ (i : Nat) (x : D), l[i]? = some x ∧ d = .tup [.int ((k + i : Nat)), x] := by
  obtain ⟨i, hi⟩ := List.getElem?_of_mem m
  rw [enumL_get] at hi
  cases hx : l[i]? with
  | none => rw [hx] at hi; cases hi
  | some x => rw [hx] at hi; exact ⟨i, x, hx, (Option.some.inj hi).symm⟩
/-- a call of alike with the same thing twice -/
theorem alk {F : List D → RP} (hF : ∀ x : D, x.nor = true → dsz x ≤ 16777216 → F [x, x] = .val (.bl true)) {fa : FA} {env : En} {h h' : Hs} {ds : List D} {x : D} (h1 : fa env h = .ok ds h') (h2 : dall (dref h' 6) ds = some [x, x]) (hn : x.nor = true) (hs : dsz x ≤ 16777216) :
    fNot (fTru (fCall F fa)) env h = .ok false h' := by
  unfold fNot fTru
  rw [call_val h1 h2 (hF x hn hs)]
  rfl
theorem dszs_ints {l : List D} (h : ∀ d ∈ l, dsz d = 1) : dszs l = l.length := by
  induction l with
  | nil => rfl
  | cons a r ih => rw [dszs, ih fun d m => h d (List.mem_cons_of_mem _ m), h a List.mem_cons_self, List.length_cons]; omega
end PF
namespace PF
open PySem PySem.Spec PyProof.Rows L2
/-! ### a <= b <= c -/
def fChain (f f' : D → D → Hs → R D) (fa fb fc : FE) : FE := fun env h => (fa env h).bnd fun x h1 => (fb env h1).bnd fun y h2 => (f x y h2).bnd fun z h3 => match z with
  | .bl true => (fc env h3).bnd fun w h4 => f' y w h4
  | .bl false => .ok (.bl false) h3
  | _ => .no
section
variable {g : G} {W : Wx}
theorem sim_chain {r r' : R2} {f f' : D → D → Hs → R D} {ta tb tc : TE} {fa fb fc : FE} (hr : SimR2 g r f) (hr' : SimR2 g r' f') (ha : SimE g W ta fa) (hb : SimE g W tb fb) (hc : SimE g W tc fc) : SimE g W (tChain r r' ta tb tc) (fChain f f' fa fb fc) := by
  intro H0 sp ι h H env σ Q R E w
  refine ha H0 sp ι h H env σ _ R E (WP.bnd w fun x h1 ι1 H1 R1 S1 w1 v1 q1 => ?_)
  refine hb H0 sp ι1 h1 H1 env σ _ R1 (E.mono S1) (WP.bnd w1 fun y h2 ι2 H2 R2 S2 w2 v2 q2 => ?_)
  refine hr H0 sp ι2 h2 H2 x y v1 v2 W _ R2 (VR.mono S2 _ _ q1) q2 (WP.bnd w2 fun z h3 ι3 H3 R3 S3 w3 v3 q3 => ?_)
  split at w3
  · have e : v3 = .bl true := q3
    refine ⟨true, e, ?_⟩
    rw [if_pos rfl]
    refine hc H0 sp ι3 h3 H3 env σ _ R3 (E.mono ((S1.trans S2).trans S3)) (WP.bnd w3 fun u h4 ι4 H4 R4 S4 w4 v4 q4 => ?_)
    exact hr' H0 sp ι4 h4 H4 y u v2 v4 W Q R4 (VR.mono (S3.trans S4) _ _ q2) q4 w4
  · have e : v3 = .bl false := q3
    refine ⟨false, e, ?_⟩
    rw [if_neg Bool.false_ne_true]
    exact w3.here R3 _ rfl
  · exact w3.elim
/-! ### sum, any, all, max, min of a list -/
def bools : List D → Option (List Bool)
  | [] => some []
  | .bl b :: r => (bools r).map (b :: ·)
  | _ => none
theorem bools_map (l : List Bool) : bools (l.map D.bl) = some l := by
  induction l with
  | nil => rfl
  | cons a r ih => simp [bools, ih]
theorem bools_ok {K : PySem.W.Frag} {ι : List Addr} {H : Hp} : ∀ {ds : List D} {vs : List V} {l : List Bool}, VRs K ι H ds vs → bools ds = some l → vs = l.map V.bl
  | [], vs, l, q, e => by cases e; exact VRs.nil_iff.mp q
  | d :: ds, vs, l, q, e => by
    obtain ⟨v, r, rfl, h1, h2⟩ := VRs.cons_iff.mp q
    cases d with
    | bl b =>
      simp only [bools] at e
      cases hb : bools ds with
      | none => rw [hb] at e; cases e
      | some l' =>
        rw [hb] at e
        cases e
        have e1 : v = .bl b := h1
        rw [e1, bools_ok h2 hb]; rfl
    | _ => cases e
theorem inz_ok {K : PySem.W.Frag} {ι : List Addr} {H : Hp} {ds : List D} {vs : List V} {l : List Int} (q : VRs K ι H ds vs) (e : inz ds = some l) : vs = l.map V.int := by
  have e1 := inz_eq e
  subst e1
  exact VRs.ints q
def sumD : List D → Hs → R D
  | [x], h => match lof h x with
    | some ds => match inz ds with
      | some l => .ok (.int l.sum) h
      | none => .no
    | none => .no
  | _, _ => .no
def anyD : List D → Hs → R D
  | [x], h => match lof h x with
    | some ds => match bools ds with
      | some l => .ok (.bl (l.any id)) h
      | none => .no
    | none => .no
  | _, _ => .no
def allD : List D → Hs → R D
  | [x], h => match lof h x with
    | some ds => match bools ds with
      | some l => .ok (.bl (l.all id)) h
      | none => .no
    | none => .no
  | _, _ => .no
theorem sim_sum : SimC g (rSum g.K) sumD := by
  intro H0 sp ι h H xs vs W Q R q w
  unfold sumD at w
  split at w
  · split at w
    · rename_i x ds e1
      split at w
      · rename_i l e2
        obtain ⟨v, rfl, q1⟩ := q.oneE
        obtain ⟨a, vs, rfl, p, r⟩ := lof_ok R q1 e1
        have e3 := inz_ok r e2
        subst e3
        exact ⟨a, l, rfl, SqL.of p, w.here R _ rfl⟩
      · exact w.elim
    · exact w.elim
  · exact w.elim
theorem sim_any : SimC g (rAny g.K) anyD := by
  intro H0 sp ι h H xs vs W Q R q w
  unfold anyD at w
  split at w
  · split at w
    · rename_i x ds e1
      split at w
      · rename_i l e2
        obtain ⟨v, rfl, q1⟩ := q.oneE
        obtain ⟨a, vs, rfl, p, r⟩ := lof_ok R q1 e1
        have e3 := bools_ok r e2
        subst e3
        exact ⟨a, l, rfl, SqL.of p, w.here R _ rfl⟩
      · exact w.elim
    · exact w.elim
  · exact w.elim
theorem sim_all : SimC g (rAll g.K) allD := by
  intro H0 sp ι h H xs vs W Q R q w
  unfold allD at w
  split at w
  · split at w
    · rename_i x ds e1
      split at w
      · rename_i l e2
        obtain ⟨v, rfl, q1⟩ := q.oneE
        obtain ⟨a, vs, rfl, p, r⟩ := lof_ok R q1 e1
        have e3 := bools_ok r e2
        subst e3
        exact ⟨a, l, rfl, SqL.of p, w.here R _ rfl⟩
      · exact w.elim
    · exact w.elim
  · exact w.elim
end
section
variable {X : Cx}
theorem kSum (K) (hc : X.calm = true) (h : X.K = K := by rfl) : CallR X (Value.builtin "sum") (rSum K) := h ▸ cr_sum hc
theorem kAny (K) (hc : X.calm = true) (h : X.K = K := by rfl) : CallR X (Value.builtin "any") (rAny K) := h ▸ cr_any hc
theorem kAll (K) (hc : X.calm = true) (h : X.K = K := by rfl) : CallR X (Value.builtin "all") (rAll K) := h ▸ cr_all hc
end
end PF
namespace PF
open PySem PySem.Spec PyProof.Rows L2
/-- code that the proof never comes to -/
def fNever : FS := fun _ _ => .no
section
variable {g : G} {W : Wx}
theorem sim_never : SimS g W tNever fNever := fun _ _ _ _ _ _ _ _ _ _ w => w
/-! ### range(a, b, c) as what is walked, c > 0 -/
def stepL (i c : Int) (n : Nat) : List D := (List.range n).map fun k => .int (i + (k : Nat) * c)
def fRng3 (fa : FA) : FI := fun env h => (fa env h).bnd fun xs h1 => match xs with
  | [.int i, .int j, .int c] => if c ≠ 0 ∧ c.natAbs < 1073741824 ∧ Builtin.Range.small i j c = true ∧ 0 ≤ Builtin.Range.rangeSize i j c then .ok ⟨stepL i c (Builtin.Range.rangeSize i j c).toNat, []⟩ h1 else .no
  | _ => .no
theorem wk_step {K : PySem.W.Frag} {H0 : Hp} {sp ι : List Addr} {H : Hp} {lo c : Int} {n : Nat} : Wk K H0 sp (Itc lo c n) ⟨stepL lo c n, []⟩ ι H := by
  intro ι1 h1 H1 R1 S1 _
  have len : (stepL lo c n).length = n := by simp [stepL]
  refine ⟨fun i hi => ⟨by show i < n; rw [← len]; exact hi, fun x H' y => ?_⟩, by show n ≤ (stepL lo c n).length; rw [len]; exact Nat.le_refl _⟩
  obtain ⟨rfl, rfl⟩ := y
  have hi' : i < n := by rw [← len]; exact hi
  exact ⟨.int (lo + (i : Nat) * c), by simp [stepL, hi'], ⟨R1, Stp.refl _ _⟩, rfl⟩
theorem VRs.threeE {K : PySem.W.Frag} {ι : List Addr} {H : Hp} {a b c : D} {vs : List V} (q : VRs K ι H [a, b, c] vs) : ∃ x y z, vs = [x, y, z] ∧ VR K ι H a x ∧ VR K ι H b y ∧ VR K ι H c z := by
  obtain ⟨x, r, rfl, h1, q⟩ := VRs.cons_iff.mp q
  obtain ⟨y, r, rfl, h2, q⟩ := VRs.cons_iff.mp q
  obtain ⟨z, r, rfl, h3, q⟩ := VRs.cons_iff.mp q
  rw [VRs.nil_iff.mp q]
  exact ⟨x, y, z, rfl, h1, h2, h3⟩
theorem sim_rng3 {ta : TA} {fa : FA} (ha : SimA g W ta fa) : SimI g W (iRng3 ta) (fRng3 fa) := by
  intro H0 sp ι h H env σ Q R E w
  refine ha H0 sp ι h H env σ _ R E (WP.bnd w fun xs h1 ι1 H1 R1 S1 w1 vs q => ?_)
  split at w1
  · obtain ⟨⟨c1, c2, c3, c4⟩, w1⟩ := ifN w1
    obtain ⟨x, y, z, rfl, e1, e2, e3⟩ := q.threeE
    have e1 : x = .int _ := e1
    have e2 : y = .int _ := e2
    have e3 : z = .int _ := e3
    subst e1 e2 e3
    exact ⟨_, _, _, _, rfl, ⟨c1, c2, c3, by omega⟩, w1.here R1 _ wk_step⟩
  · exact w1.elim
end
end PF
namespace PF
open PySem PySem.Spec PyProof.Rows L2
open PySem.W (AllAlike Sortable dataLe)
/-! ### sorted, over plain data -/
def dLe (a b : D) : Bool := dataLe false toPy a b
open Classical in
noncomputable def sortedD (xs : List D) (h : Hs) : R D := match xs with
  | [x] => match seqL h x with
    | some ds => if nors ds = true ∧ dpts ds ≤ 60 ∧ AllAlike (ds.map toPy) ∧ Sortable (ds.map toPy) then .ok (.ref h.length) (h ++ [.lst (ds.mergeSort dLe)]) else .no
    | none => .no
  | _ => .no
where seqL (h : Hs) (x : D) : Option (List D) := lof h x
theorem VRs.zip {K : PySem.W.Frag} {ι : List Addr} {H : Hp} : ∀ {ds : List D} {vs : List V}, VRs K ι H ds vs → ∀ p ∈ vs.zip ds, VR K ι H p.2 p.1
  | [], vs, h, p, m => by rw [VRs.nil_iff.mp h] at m; cases m
  | d :: ds, vs, h, p, m => by
    obtain ⟨v, r, rfl, h1, h2⟩ := VRs.cons_iff.mp h
    rw [List.zip_cons_cons] at m
    rcases List.mem_cons.mp m with z | z
    · subst z; exact h1
    · exact h2.zip p z
theorem VRs.of_zip {K : PySem.W.Frag} {ι : List Addr} {H : Hp} : ∀ {l : List (V × D)}, (∀ p ∈ l, VR K ι H p.2 p.1) → VRs K ι H (l.map Prod.snd) (l.map Prod.fst)
  | [], _ => VRs.nil_iff.mpr rfl
  | p :: l, h => .cons (h p List.mem_cons_self) (VRs.of_zip fun q m => h q (List.mem_cons_of_mem _ m))
theorem dpt_mem {d : D} : ∀ {l : List D}, d ∈ l → dpt d ≤ dpts l
  | a :: r, m => by
    rw [dpts]
    rcases List.mem_cons.mp m with z | z
    · subst z; omega
    · have := dpt_mem z; omega
theorem sim_sorted {g : G} : SimC g (SD.rSortDp g.K) sortedD := by
  intro H0 sp ι h H xs vs W Q R q w
  unfold sortedD at w
  split at w
  · split at w
    · rename_i x ds e1
      obtain ⟨v, rfl, q1⟩ := q.oneE
      obtain ⟨a, vs, rfl, p, r⟩ := lof_ok R q1 e1
      by_cases hc : nors ds = true ∧ dpts ds ≤ 60 ∧ AllAlike (ds.map toPy) ∧ Sortable (ds.map toPy)
      · rw [if_pos hc] at w
        obtain ⟨c1, c2, c3, c4⟩ := hc
        have hl := r.length
        have hz := r.zip
        have f1 : (vs.zip ds).map Prod.fst = vs := List.map_fst_zip (by omega)
        have f2 : (vs.zip ds).map Prod.snd = ds := List.map_snd_zip (by omega)
        have hm : ∀ p ∈ vs.zip ds, p.2 ∈ ds := fun p m => by rw [← f2]; exact List.mem_map_of_mem m
        have hn : ∀ p ∈ vs.zip ds, p.2.nor = true := fun p m => by
          have := c1
          rw [nors_all, List.all_eq_true] at this
          exact this _ (hm p m)
        refine ⟨a, (vs.zip ds).map fun p => (p.1, toPy p.2), rfl, ?_, ?_, ?_, ?_, ?_, ?_⟩
        · rw [List.map_map, show (Prod.fst ∘ fun p : V × D => (p.1, toPy p.2)) = Prod.fst from rfl, f1]; exact SqL.of p
        · intro p' m
          obtain ⟨p0, m0, rfl⟩ := List.mem_map.mp m
          exact (VR.dp _ _ (hn _ m0) (hz _ m0)).1
        · rw [List.map_map, show (Prod.snd ∘ fun p : V × D => (p.1, toPy p.2)) = toPy ∘ Prod.snd from rfl, ← List.map_map, f2]; exact c3
        · rw [List.map_map, show (Prod.snd ∘ fun p : V × D => (p.1, toPy p.2)) = toPy ∘ Prod.snd from rfl, ← List.map_map, f2]; exact c4
        · intro p' m
          obtain ⟨p0, m0, rfl⟩ := List.mem_map.mp m
          show (toPy p0.2).depth ≤ 60
          rw [toPy_depth]
          exact Nat.le_trans (dpt_mem (hm _ m0)) c2
        · intro n hq
          have m1 : ((vs.zip ds).map fun p => (p.1, toPy p.2)).mergeSort (dataLe false Prod.snd) = ((vs.zip ds).mergeSort fun p q => dLe p.2 q.2).map fun p => (p.1, toPy p.2) := (List.map_mergeSort (f := fun p : V × D => (p.1, toPy p.2)) (r := fun p q : V × D => dLe p.2 q.2) (s := dataLe false Prod.snd) (l := vs.zip ds) fun _ _ _ _ => rfl).symm
          have m2 : ds.mergeSort dLe = ((vs.zip ds).mergeSort fun p q => dLe p.2 q.2).map Prod.snd := by
            rw [List.map_mergeSort (s := dLe) (fun _ _ _ _ => rfl), f2]
          rw [m1, List.map_map, show (Prod.fst ∘ fun p : V × D => (p.1, toPy p.2)) = Prod.fst from rfl]
          rw [m2] at w
          have r' : VRs g.K ι H (((vs.zip ds).mergeSort fun p q => dLe p.2 q.2).map Prod.snd) (((vs.zip ds).mergeSort fun p q => dLe p.2 q.2).map Prod.fst) := VRs.of_zip fun p m => hz p (List.mem_mergeSort.mp m)
          obtain ⟨x1, x2⟩ := newL R r' hq
          exact w.at x1 _ x2
      · rw [if_neg hc] at w; exact w.elim
    · exact w.elim
  · exact w.elim
theorem kSorted {X : Cx} (K) (hu : X.A.units + 64 < cLine) (h : X.K = K := by rfl) : CallR X (Value.builtin "sorted") (SD.rSortDp K) := h ▸ SD.cr_sortedDp hu
end PF
namespace PF
open PySem PySem.Spec PyProof.Rows L2
open PySem.W (AlikeAll dataLt minD maxD)
/-! ### min, max of a list or a tuple of plain data -/
mutual
theorem toPy_inj : ∀ d e : D, d.nor = true → e.nor = true → toPy d = toPy e → d = e
  | .non, e, _, q, h => by cases e <;> first | rfl | (simp [D.nor] at q; done) | (simp only [toPy] at h; cases h)
  | .bl b, e, _, q, h => by cases e <;> first | (simp [D.nor] at q; done) | (simp [toPy] at h; subst h; rfl) | (simp only [toPy] at h; cases h)
  | .int b, e, _, q, h => by cases e <;> first | (simp [D.nor] at q; done) | (simp [toPy] at h; subst h; rfl) | (simp only [toPy] at h; cases h)
  | .str b, e, _, q, h => by cases e <;> first | (simp [D.nor] at q; done) | (simp [toPy] at h; subst h; rfl) | (simp only [toPy] at h; cases h)
  | .tup ds, e, p, q, h => by
    cases e with
    | tup es =>
      simp only [toPy, PyData.tuple.injEq] at h
      simp only [D.nor] at p q
      rw [toPys_inj ds es p q h]
    | _ => first | (simp only [toPy] at h; cases h) | (simp [D.nor] at q)
  | .lst ds, e, p, q, h => by
    cases e with
    | lst es =>
      simp only [toPy, PyData.list.injEq] at h
      simp only [D.nor] at p q
      rw [toPys_inj ds es p q h]
    | _ => first | (simp only [toPy] at h; cases h) | (simp [D.nor] at q)
  | .ref _, _, p, _, _ => by simp [D.nor] at p
  | .scr _, _, p, _, _ => by simp [D.nor] at p
theorem toPys_inj : ∀ ds es : List D, nors ds = true → nors es = true → toPys ds = toPys es → ds = es
  | [], [], _, _, _ => rfl
  | [], e :: es, _, _, h => by simp [toPys] at h
  | d :: ds, [], _, _, h => by simp [toPys] at h
  | d :: ds, e :: es, p, q, h => by
    rw [nors_cons, Bool.and_eq_true] at p q
    simp only [toPys, List.cons.injEq] at h
    rw [toPy_inj d e p.1 q.1 h.1, toPys_inj ds es p.2 q.2 h.2]
end
def dLt (a b : D) : Bool := dataLt (toPy a) (toPy b)
def best (lt : D → D → Bool) (x : D) (xs : List D) : D := xs.foldl (fun a y => if lt y a then y else a) x
theorem best_mem {lt : D → D → Bool} : ∀ (xs : List D) (x : D), best lt x xs ∈ x :: xs
  | [], x => List.mem_cons_self
  | y :: ys, x => by
    have h := best_mem (lt := lt) ys (if lt y x then y else x)
    show best lt (if lt y x then y else x) ys ∈ _
    rcases List.mem_cons.mp h with z | z
    · rw [z]; split <;> simp
    · simp [z]
theorem toPys_get : ∀ (ds : List D) (i : Nat), (toPys ds)[i]? = ds[i]?.map toPy
  | [], i => by simp [toPys]
  | d :: ds, 0 => by simp [toPys]
  | d :: ds, i + 1 => by simp [toPys, toPys_get ds i]
theorem best_min : ∀ (xs : List D) (x : D), toPy (best dLt x xs) = minD (toPy x) (toPys xs)
  | [], x => rfl
  | y :: ys, x => by
    show toPy (best dLt (if dLt y x then y else x) ys) = _
    rw [best_min ys]
    show _ = minD (if dataLt (toPy y) (toPy x) then toPy y else toPy x) (toPys ys)
    unfold dLt
    split <;> rfl
theorem best_max : ∀ (xs : List D) (x : D), toPy (best (fun a b => dLt b a) x xs) = maxD (toPy x) (toPys xs)
  | [], x => rfl
  | y :: ys, x => by
    show toPy (best (fun a b => dLt b a) (if dLt x y then y else x) ys) = _
    rw [best_max ys]
    show _ = maxD (if dataLt (toPy x) (toPy y) then toPy y else toPy x) (toPys ys)
    unfold dLt
    split <;> rfl
def sqof (h : Hs) : D → Option (List D)
  | .tup ds => some ds
  | x => lof h x
theorem sqof_ok {K : PySem.W.Frag} {H0 : Hp} {sp ι : List Addr} {h : Hs} {H : Hp} (R : Rel K H0 sp ι h H) {d : D} {v : V} {ds : List D} (q : VR K ι H d v) (e : sqof h d = some ds) : ∃ a vs, v = .ref a ∧ (SqL K H a vs ∨ SqT K H a vs) ∧ VRs K ι H ds vs := by
  cases d with
  | tup xs =>
    cases e
    unfold VR at q
    obtain ⟨a, vs, e1, e2, e3⟩ := q
    exact ⟨a, vs, e1, .inr e2, e3⟩
  | lst xs =>
    obtain ⟨a, vs, e1, e2, e3⟩ := lof_ok R q e
    exact ⟨a, vs, e1, .inl (SqL.of e2), e3⟩
  | ref n =>
    obtain ⟨a, vs, e1, e2, e3⟩ := lof_ok R q e
    exact ⟨a, vs, e1, .inl (SqL.of e2), e3⟩
  | _ => cases e
open Classical in
noncomputable def bestD (lt : D → D → Bool) : List D → Hs → R D
  | [x], h => match sqof h x with
    | some (y :: ys) => if nors (y :: ys) = true ∧ dpts (y :: ys) ≤ 60 ∧ AlikeAll (toPys (y :: ys)) then .ok (best lt y ys) h else .no
    | _ => .no
  | _, _ => .no
noncomputable def minLD : List D → Hs → R D := bestD dLt
noncomputable def maxLD : List D → Hs → R D := bestD fun a b => dLt b a
theorem VRs.at_ {K : PySem.W.Frag} {ι : List Addr} {H : Hp} : ∀ {ds : List D} {vs : List V} {i : Nat} {v : V} {d : D}, VRs K ι H ds vs → vs[i]? = some v → ds[i]? = some d → VR K ι H d v
  | [], vs, i, v, d, q, e, e' => by simp at e'
  | x :: ds, vs, i, v, d, q, e, e' => by
    obtain ⟨u, r, rfl, h1, h2⟩ := VRs.cons_iff.mp q
    cases i with
    | zero =>
      simp only [List.getElem?_cons_zero, Option.some.injEq] at e e'
      rw [← e, ← e']; exact h1
    | succ i =>
      simp only [List.getElem?_cons_succ] at e e'
      exact h2.at_ e e'
theorem sim_best {g : G} {bst : PyData → List PyData → PyData} {lt : D → D → Bool} (hb : ∀ xs x, toPy (best lt x xs) = bst (toPy x) (toPys xs)) : SimC g (MM.rBest g.K bst) (bestD lt) := by
  intro H0 sp ι h H xs vs W Q R q w
  unfold bestD at w
  split at w
  · split at w
    · rename_i x y ys e1
      obtain ⟨v, rfl, q1⟩ := q.oneE
      obtain ⟨a, vs, rfl, p, r⟩ := sqof_ok R q1 e1
      obtain ⟨⟨c1, c2, c3⟩, w⟩ := ifC w
      obtain ⟨d1, d2⟩ := VRs.dp _ _ c1 r
      have d3 : PyData.depthAll (toPys (y :: ys)) ≤ 60 := by rw [toPys_depth]; exact c2
      refine ⟨a, vs, toPy y, toPys ys, rfl, p, d1, d2, c3, d3, fun i v d ev ed eb => ?_⟩
      have ed : (toPys (y :: ys))[i]? = some d := ed
      rw [toPys_get] at ed
      cases e2 : (y :: ys)[i]? with
      | none => rw [e2] at ed; cases ed
      | some z =>
        rw [e2] at ed
        have e3 : toPy z = d := by simpa using ed
        have all := c1
        rw [nors_all, List.all_eq_true] at all
        have e4 : z = best lt y ys := toPy_inj _ _ (all _ (List.mem_of_getElem? e2)) (all _ (best_mem ys y)) (by rw [e3, eb, hb])
        exact w.here R _ (e4 ▸ r.at_ ev e2)
    · exact w.elim
  · exact w.elim
theorem sim_minL {g : G} : SimC g (MM.rBest g.K minD) minLD := sim_best best_min
theorem sim_maxL {g : G} : SimC g (MM.rBest g.K maxD) maxLD := sim_best best_max
theorem kMinL {X : Cx} (K) (hc : X.calm = true) (hu : X.A.units + 64 < cLine) (h : X.K = K := by rfl) : CallR X (Value.builtin "min") (MM.rBest K minD) := h ▸ MM.cr_minDp hc hu
theorem kMaxL {X : Cx} (K) (hc : X.calm = true) (hu : X.A.units + 64 < cLine) (h : X.K = K := by rfl) : CallR X (Value.builtin "max") (MM.rBest K maxD) := h ▸ MM.cr_maxDp hc hu
end PF
namespace PF
open PySem PySem.Spec PyProof.Rows L2
/-! ### a new list that nobody changes: a value -/
abbrev WF (h : Hs) : Prop := h.all (belO h.length) = true
def maskH (n : Nat) (h : Hs) : Hs := List.replicate n (.dct []) ++ h.drop n
def valR (h : Hs) (r : R D) : R D := match r with
  | .ok d h' => if (h'.take h.length).all (belO h.length) = true then match dref (maskH h.length h') 6 d with
    | some d' => .ok d' (h'.take h.length)
    | none => tmpR h r
    else tmpR h r
  | r => r
def fVal (fe : FE) : FE := fun env h => valR h (fe env h)
theorem mask_get {n : Nat} {h : Hs} {k : Nat} {ds : List D} (e : (maskH n h)[k]? = some (.lst ds)) : n ≤ k ∧ h[k]? = some (.lst ds) := by
  unfold maskH at e
  by_cases c : k < n
  · rw [List.getElem?_append_left (by simpa using c)] at e
    have := List.mem_of_getElem? e
    rw [List.mem_replicate] at this
    cases this.2
  · rw [List.getElem?_append_right (by simp; omega), List.length_replicate, List.getElem?_drop] at e
    exact ⟨by omega, by rw [show n + (k - n) = k by omega] at e; exact e⟩
section
variable {g : G} {H0 : Hp} {sp ι : List Addr} {h : Hs} {H : Hp} {W : Wx}
theorem valR_ok {r : R D} {Q : VK} (R : Rel g.K H0 sp ι h H) (w : WP g H0 sp W ι H (valR h r) fun d _ ι' H' => ∀ v, VR g.K ι' H' d v → Q v H') : WP g H0 sp W ι H r fun d _ ι' H' => ∀ v, VR g.K ι' H' d v → Q v H' := by
  cases r with
  | er e v h1 => exact w
  | no => exact w
  | ok d h' =>
    by_cases c : (h'.take h.length).all (belO h.length) = true
    · simp only [valR, if_pos c] at w
      cases hd : dref (maskH h.length h') 6 d with
      | none => simp only [hd] at w; exact tmpR_ok R w
      | some d' =>
        simp only [hd] at w
        intro ι' H' R' S' v q
        obtain ⟨RB, SB⟩ := R.backTo R' S' c
        refine w.at ⟨RB, SB⟩ v ?_
        refine dref_ok (h := maskH h.length h') (fun a m => ?_) (fun n ds e => ?_) 6 d v d' q hd
        · obtain ⟨i, hi⟩ := List.getElem?_of_mem m
          exact List.mem_of_getElem? (S'.pre i a hi)
        · obtain ⟨k1, k2⟩ := mask_get e
          obtain ⟨a, e1, vs, e2, e3⟩ := R'.ob n _ k2
          refine ⟨a, vs, e1, e2, e3, fun m => ?_⟩
          obtain ⟨i, hi⟩ := List.getElem?_of_mem m
          have := getElem?_inj' R'.nd (S'.pre i a hi) e1
          have hl := (List.getElem?_eq_some_iff.mp hi).1
          rw [R.len] at hl
          omega
    · simp only [valR, if_neg c] at w
      exact tmpR_ok R w
theorem sim_val {te : TE} {fe : FE} (he : SimE g W te fe) : SimE g W te (fVal fe) := fun H0 sp ι h H env σ Q R E w => he H0 sp ι h H env σ Q R E (valR_ok R w)
end
theorem tmp_nor {h : Hs} {d : D} (hd : d.nor = true) : tmpR h (.ok d h) = .ok d h := by
  unfold tmpR
  by_cases c : (h.take h.length).all (belO h.length) = true
  · simp only [if_pos c]
    by_cases p : d.pur = true
    · simp only [if_pos p, List.take_length]
    · simp only [if_neg p]
      cases d with
      | ref m => cases hd
      | _ => rfl
  · simp only [if_neg c]
theorem val_nor {h : Hs} {d : D} (hd : d.nor = true) : valR h (.ok d h) = .ok d h := by
  unfold valR
  dsimp only
  by_cases c : (h.take h.length).all (belO h.length) = true
  · rw [if_pos c, dref_nor hd, List.take_length]
  · rw [if_neg c]; exact tmp_nor hd
theorem val_new {h junk : Hs} {ds : List D} {n : Nat} (hw : WF h) (hn : nors ds = true) (e : n = h.length + junk.length) : valR h (.ok (.ref n) (h ++ junk ++ [.lst ds])) = .ok (.lst ds) h := by
  subst e
  have e1 : (h ++ junk ++ [Ob.lst ds]).take h.length = h := by rw [List.append_assoc, List.take_left]
  have e2 : (maskH h.length (h ++ junk ++ [Ob.lst ds]))[h.length + junk.length]? = some (.lst ds) := by
    unfold maskH
    rw [List.getElem?_append_right (by simp), List.length_replicate, List.getElem?_drop, List.getElem?_append_right (by simp)]
    simp
  have e3 : dref (maskH h.length (h ++ junk ++ [Ob.lst ds])) 6 (.ref (h.length + junk.length)) = some (.lst ds) := dref_ref e2 hn
  simp only [valR, e1, if_pos hw, e3]
theorem val_n {h : Hs} {ds : List D} (hw : WF h) (hn : nors ds = true) : valR h (.ok (.ref h.length) (h ++ [.lst ds])) = .ok (.lst ds) h := by
  have := val_new (junk := []) hw hn (n := h.length) rfl
  rwa [List.append_nil] at this
/-- a display -/
theorem val_lst {fa : FA} {env : En} {h : Hs} {ds : List D} (hw : WF h) (ha : fa env h = .ok ds h) (hn : nors ds = true) (hl : ds.length ≤ 16777216) : fVal (fLst fa) env h = .ok (.lst ds) h := by
  simp only [fVal, fLst, ha, bnd_ok, hl, if_true]
  exact val_n hw hn
mutual
theorem bel_le {n m : Nat} (e : n ≤ m) : ∀ d : D, bel n d = true → bel m d = true
  | .tup xs, h => by unfold bel at h ⊢; exact bels_le e xs h
  | .lst xs, h => by unfold bel at h ⊢; exact bels_le e xs h
  | .ref k, h => by
    unfold bel at h ⊢
    have := of_decide_eq_true h
    exact decide_eq_true (by omega)
  | .non, _ => rfl
  | .bl _, _ => rfl
  | .int _, _ => rfl
  | .str _, _ => rfl
  | .scr _, _ => rfl
theorem bels_le {n m : Nat} (e : n ≤ m) : ∀ ds : List D, bels n ds = true → bels m ds = true
  | [], _ => rfl
  | d :: ds, h => by
    rw [bels_cons, Bool.and_eq_true] at h ⊢
    exact ⟨bel_le e d h.1, bels_le e ds h.2⟩
end
theorem belO_le {n m : Nat} (e : n ≤ m) {o : Ob} (h : belO n o = true) : belO m o = true := by
  cases o with
  | lst ds => exact bels_le e ds h
  | dct kvs =>
    have h' : (bels n (kvs.map Prod.fst) && bels n (kvs.map Prod.snd)) = true := h
    rw [Bool.and_eq_true] at h'
    show (bels m _ && bels m _) = true
    rw [bels_le e _ h'.1, bels_le e _ h'.2]; rfl
/-- what a comprehension finds while it gathers: all objects there were, a new one at the end -/
structure Ext (h h' : Hs) : Prop where
  wf : WF h'
  get : ∀ (n : Nat) (o : Ob), h[n]? = some o → h'[n]? = some o
theorem WF.snoc {h : Hs} {ds : List D} (hw : WF h) (hn : nors ds = true) : WF (h ++ [.lst ds]) := by
  show (h ++ [Ob.lst ds]).all (belO (h ++ [Ob.lst ds]).length) = true
  rw [List.all_append]
  simp only [List.all_cons, List.all_nil, Bool.and_true, Bool.and_eq_true]
  refine ⟨?_, ?_⟩
  · have hw : h.all (belO h.length) = true := hw
    rw [List.all_eq_true] at hw ⊢
    intro o m
    have := hw o m
    rw [List.length_append]
    exact belO_le (Nat.le_add_right _ _) this
  · exact bels_nors _ _ hn
/-- a comprehension as a value -/
theorem val_lc {fi : FI} {fg : FG} {fc : FT} {fe : FE} {vs : List Nat} {env : En} {h0 : Hs} {l : List D} {gd : List (Nat × List D)} (f : D → Option D) (hw : WF h0) (hi : fi env h0 = .ok ⟨l, gd⟩ h0) (hg : ∀ p ∈ gd, h0[p.1]? = some (.lst p.2)) (hl : l.length ≤ 16777216)
    (hs : ∀ d ∈ l, ∀ h, Ext h0 h → ∃ e, fg d (wipeE env vs) h = .ok e h ∧ (match f d with
      | some y => fc e h = .ok true h ∧ fe e h = .ok y h ∧ y.nor = true
      | none => fc e h = .ok false h)) :
    fVal (fLc fi fg fc fe vs) env h0 = .ok (.lst (l.filterMap f)) h0 := by
  have hn : nors (l.filterMap f) = true := nors_of fun y m => by
    obtain ⟨d, m1, m2⟩ := List.mem_filterMap.mp m
    obtain ⟨e, _, q⟩ := hs d m1 h0 ⟨hw, fun _ _ z => z⟩
    rw [m2] at q
    exact q.2.2
  obtain ⟨h', z1, ⟨acc', rfl, nz⟩, z3⟩ := lc_gives (fg := fg) (fc := fc) (fe := fe) (s := ⟨l, gd⟩) (n := h0.length) (env := wipeE env vs) (fun h => ∃ acc, h = h0 ++ [.lst acc] ∧ nors acc = true) (fun h i p m => by
      obtain ⟨acc, rfl, _⟩ := i
      have := hg p m
      rw [List.getElem?_append_left (by exact (List.getElem?_eq_some_iff.mp this).1)]; exact this) f l (h0 ++ [.lst []]) [] ⟨_, rfl, rfl⟩ (by simp) (by simpa using hl) (fun d m h acc il hn => by
      obtain ⟨acc0, rfl, n0⟩ := il
      obtain ⟨e, q1, q2⟩ := hs d m (h0 ++ [.lst acc0]) ⟨hw.snoc n0, fun n o z => by rw [List.getElem?_append_left (List.getElem?_eq_some_iff.mp z).1]; exact z⟩
      refine ⟨e, _, h0 ++ [.lst acc0], q1, ?_⟩
      cases hf : f d with
      | none => rw [hf] at q2; exact ⟨q2, hn, _, rfl, n0⟩
      | some y =>
        rw [hf] at q2
        refine ⟨q2.1, _, q2.2.1, hn, _, by simp; rfl, ?_⟩
        have : acc0 = acc := by
          rw [List.getElem?_append_right (by omega)] at hn
          simp at hn
          exact hn
        subst this
        rw [nors_append, n0]; simp [q2.2.2])
  have z4 : acc' = l.filterMap f := by
    rw [List.getElem?_append_right (by omega)] at z3
    simp at z3
    exact z3
  subst z4
  unfold fVal fLc
  rw [hi]
  simp only [bnd_ok]
  rw [z1]
  simp only [bnd_ok]
  exact val_n hw hn
theorem val_lm {fi : FI} {fg : FG} {fe : FE} {vs : List Nat} {env : En} {h0 : Hs} {l : List D} {gd : List (Nat × List D)} (f : D → D) (hw : WF h0) (hi : fi env h0 = .ok ⟨l, gd⟩ h0) (hg : ∀ p ∈ gd, h0[p.1]? = some (.lst p.2)) (hl : l.length ≤ 16777216)
    (hs : ∀ d ∈ l, ∀ h, Ext h0 h → ∃ e, fg d (wipeE env vs) h = .ok e h ∧ fe e h = .ok (f d) h ∧ (f d).nor = true) :
    fVal (fLc fi fg fYes fe vs) env h0 = .ok (.lst (l.map f)) h0 := by
  rw [← fm_map]
  exact val_lc (fun d => some (f d)) hw hi hg hl fun d m h x => by
    obtain ⟨e, q1, q2⟩ := hs d m h x
    exact ⟨e, q1, rfl, q2⟩
end PF
namespace PF
open PySem PySem.Spec PyProof.Rows L2
/-! ### the law's frame: the bag, its cells, objects without references -/
def obNor : Ob → Bool
  | .lst ds => nors ds
  | .dct kvs => nors (kvs.map Prod.fst) && nors (kvs.map Prod.snd)
theorem obNor_bel (n : Nat) : ∀ o : Ob, obNor o = true → belO n o = true
  | .lst ds, h => bels_nors n ds h
  | .dct kvs, h => by
    have h' : (nors (kvs.map Prod.fst) && nors (kvs.map Prod.snd)) = true := h
    rw [Bool.and_eq_true] at h'
    show (bels n _ && bels n _) = true
    rw [bels_nors n _ h'.1, bels_nors n _ h'.2]; rfl
theorem nor_bel (n : Nat) {r : Hs} (h : r.all obNor = true) : r.all (belO n) = true := by
  rw [List.all_eq_true] at h ⊢
  exact fun o m => obNor_bel n o (h o m)
inductive A2 {α β : Type} (P : α → β → Prop) : List α → List β → Prop
  | nil : A2 P [] []
  | cons {a b l m} : P a b → A2 P l m → A2 P (a :: l) (b :: m)
theorem A2.length_eq {α β : Type} {P : α → β → Prop} {l : List α} {m : List β} (h : A2 P l m) : l.length = m.length := by
  induction h with
  | nil => rfl
  | cons _ _ ih => simp [ih]
theorem A2.append {α β : Type} {P : α → β → Prop} {l l' : List α} {m m' : List β} (h : A2 P l m) (h' : A2 P l' m') : A2 P (l ++ l') (m ++ m') := by
  induction h with
  | nil => exact h'
  | cons p _ ih => exact .cons p ih
structure Frm (fr : Bn → Hs → Hs) : Prop where
  app : ∀ b r t, fr b (r ++ t) = fr b r ++ t
  len : ∀ b r, (fr b r).length = r.length + 2
  bel : ∀ n b r, 2 ≤ n → r.all (belO n) = true → (fr b r).all (belO n) = true
theorem frm_BH (cs : List Int) : Frm (BH cs) := ⟨fun _ _ _ => rfl, fun _ _ => rfl, fun n b r hn h => all_BH n hn cs b r h⟩
theorem frm_BG (cs : List Int) : Frm (BG cs) := ⟨fun _ _ _ => rfl, fun _ _ => rfl, fun n b r hn h => all_BG n hn cs b r h⟩
section
variable {fr : Bn → Hs → Hs} (F : Frm fr) {b b' : Bn} {r junk : Hs}
include F
theorem Frm.wf (h : r.all obNor = true) : WF (fr b r) := F.bel _ b r (by rw [F.len]; omega) (nor_bel _ h)
theorem Frm.tmp {d : D} (hd : d.pur = true) (h : r.all obNor = true) : tmpR (fr b r) (.ok d (fr b' (r ++ junk))) = .ok d (fr b' r) :=
  tmp_pur hd (by rw [F.app, show (fr b r).length = (fr b' r).length by rw [F.len, F.len], List.take_left]) (F.bel _ b' r (by rw [F.len]; omega) (nor_bel _ h))
theorem Frm.tmp' {d : D} (hd : d.pur = true) (h : r.all obNor = true) : tmpR (fr b r) (.ok d (fr b' r)) = .ok d (fr b' r) := by
  have := F.tmp (b := b) (b' := b') (junk := []) hd h
  rwa [List.append_nil] at this
theorem Frm.tmpB {d : Bool} (h : r.all obNor = true) : tmpB (fr b r) (.ok d (fr b' (r ++ junk))) = .ok d (fr b' r) :=
  tmpB_cut (by rw [F.app, show (fr b r).length = (fr b' r).length by rw [F.len, F.len], List.take_left]) (F.bel _ b' r (by rw [F.len]; omega) (nor_bel _ h))
theorem Frm.tmpB' {d : Bool} (h : r.all obNor = true) : PF.tmpB (fr b r) (.ok d (fr b' r)) = .ok d (fr b' r) := by
  have := F.tmpB (b := b) (b' := b') (junk := []) (d := d) h
  rwa [List.append_nil] at this
theorem Frm.val {d : D} (hd : d.nor = true) (h : r.all obNor = true) : valR (fr b r) (.ok d (fr b' (r ++ junk))) = .ok d (fr b' r) := by
  have e1 : (fr b' (r ++ junk)).take (fr b r).length = fr b' r := by rw [F.app, show (fr b r).length = (fr b' r).length by rw [F.len, F.len], List.take_left]
  have e2 := F.bel (fr b r).length b' r (by rw [F.len]; omega) (nor_bel _ h)
  unfold valR
  dsimp only
  rw [e1, if_pos e2, dref_nor hd]
theorem Frm.val' {d : D} (hd : d.nor = true) (h : r.all obNor = true) : valR (fr b r) (.ok d (fr b' r)) = .ok d (fr b' r) := by
  have := F.val (b := b) (b' := b') (junk := []) hd h
  rwa [List.append_nil] at this
theorem Frm.new {n : Nat} {ds : List D} (hn : nors ds = true) (h : r.all obNor = true) (e : n = r.length + 2 + junk.length) : valR (fr b r) (.ok (.ref n) (fr b' (r ++ junk ++ [.lst ds]))) = .ok (.lst ds) (fr b' r) := by
  have e1 : (fr b' (r ++ junk ++ [.lst ds])).take (fr b r).length = fr b' r := by rw [List.append_assoc, F.app, show (fr b r).length = (fr b' r).length by rw [F.len, F.len], List.take_left]
  have e2 := F.bel (fr b r).length b' r (by rw [F.len]; omega) (nor_bel _ h)
  have e3 : (maskH (fr b r).length (fr b' (r ++ junk ++ [.lst ds])))[n]? = some (.lst ds) := by
    subst e
    unfold maskH
    rw [F.app, F.app, F.len, List.getElem?_append_right (by simp), List.length_replicate, List.getElem?_drop, List.getElem?_append_right (by simp [F.len])]
    simp [F.len]
  unfold valR
  dsimp only
  rw [e1, if_pos e2, dref_ref e3 hn]
theorem Frm.new' {n : Nat} {ds : List D} (hn : nors ds = true) (h : r.all obNor = true) (e : n = r.length + 2) : valR (fr b r) (.ok (.ref n) (fr b' (r ++ [.lst ds]))) = .ok (.lst ds) (fr b' r) := by
  have := F.new (b := b) (b' := b') (junk := []) hn h (n := n) (by simpa using e)
  rwa [List.append_nil] at this
/-- a comprehension whose items are drawn -/
theorem Frm.draw {fi : FI} {fg : FG} {fe : FE} {vs : List Nat} {env : En} {l : List D} (P : D → D → Prop) (h : r.all obNor = true) (hl : l.length ≤ 16777216) (hi : fi env (fr b r) = .ok ⟨l, []⟩ (fr b' r))
    (hs : ∀ d ∈ l, ∀ (b1 : Bn) (t : Hs), t.all obNor = true → ∃ e y b2, fg d (wipeE env vs) (fr b1 (r ++ t)) = .ok e (fr b1 (r ++ t)) ∧ fe e (fr b1 (r ++ t)) = .ok y (fr b2 (r ++ t)) ∧ P d y ∧ y.nor = true) :
    ∃ ys b2, fVal (fLc fi fg fYes fe vs) env (fr b r) = .ok (.lst ys) (fr b2 r) ∧ A2 P l ys := by
  obtain ⟨acc', h', z1, done, b2, hd, rfl, hf, hn⟩ := lc_rel (fg := fg) (fc := fYes) (fe := fe) (s := ⟨l, []⟩) (n := r.length + 2) (env := wipeE env vs)
    (fun rem acc h => ∃ done b2, done ++ rem = l ∧ h = fr b2 (r ++ [.lst acc]) ∧ A2 P done acc ∧ nors acc = true)
    (fun rem acc h i => by
      obtain ⟨done, b2, hd, rfl, hf, _⟩ := i
      refine ⟨good_nil _ _, ?_, ?_⟩
      · rw [F.app, List.getElem?_append_right (by rw [F.len]; omega), F.len]; simp
      · have := congrArg List.length hd
        rw [List.length_append, hf.length_eq] at this
        omega)
    (fun d rem acc h i => by
      obtain ⟨done, b1, hd, rfl, hf, hn⟩ := i
      obtain ⟨e, y, b2, q1, q2, q3, q4⟩ := hs d (by rw [← hd]; simp) b1 [.lst acc] (by simp [obNor, hn])
      refine ⟨e, _, q1, true, _, rfl, (fun z => by cases z), fun _ => ⟨y, _, q2, ?_, done ++ [d], b2, by rw [← hd]; simp, ?_, ?_, ?_⟩⟩
      · rw [F.app, List.getElem?_append_right (by rw [F.len]; omega), F.len]; simp
      · rw [F.app, F.app, List.set_append_right _ _ (by rw [F.len]; omega), F.len]
        simp
      · exact hf.append (.cons q3 .nil)
      · rw [nors_append, hn]; simp [q4])
    l [] (fr b' (r ++ [.lst []])) ⟨[], b', rfl, rfl, .nil, rfl⟩
  rw [List.append_nil] at hd
  subst hd
  refine ⟨acc', b2, ?_, hf⟩
  unfold fVal fLc
  rw [hi]
  simp only [bnd_ok]
  rw [F.len, ← F.app, z1]
  simp only [bnd_ok]
  exact F.new' hn h rfl
end
theorem Frm.ok_all {P : D → D → Prop} {l ys : List D} (h : A2 P l ys) : ∀ y ∈ ys, ∃ d ∈ l, P d y := by
  induction h with
  | nil => intro y m; cases m
  | cons p _ ih =>
    intro y m
    rcases List.mem_cons.mp m with z | z
    · subst z; exact ⟨_, List.mem_cons_self, p⟩
    · obtain ⟨d, m1, m2⟩ := ih y z
      exact ⟨d, List.mem_cons_of_mem _ m1, m2⟩
/-- the law's frame: a number drawn -/
theorem drawH {F : List D → List Int → Bn → RB} (hF : ∀ many, 1 ≤ many → many < 1073741824 → ∀ cs b, List.length cs ≤ 63 → ∃ v b', F [.int many] cs b = .val (.int v) b' ∧ 0 ≤ v ∧ v < many) {cs : List Int} (hc : cs.length ≤ 63) (m : Nat) (h1 : 1 ≤ m) (h2 : m < 1073741824) (env : En) (he : env[1]? = some (some (.ref 1))) (b : Bn) (R : Hs) :
    ∃ (v : Nat) (b' : Bn), v < m ∧ fCallB F (fCons (fVar 1) (fCons (fC (.int m)) fNil)) env (BH cs b R) = .ok (.int v) (BH cs b' R) := by
  obtain ⟨v, b', e, v0, v1⟩ := hF m (by omega) (by omega) cs b hc
  obtain ⟨k, rfl⟩ := Int.eq_ofNat_of_zero_le v0
  refine ⟨k, b', by omega, ?_⟩
  exact callB_ev (ds := [.int m]) (r := [.int m]) (by simp only [fCons, fVar, he, bnd_ok, fC, fNil]) (dall_nor _ _ rfl) e
theorem BH_wf {cs : List Int} {b : Bn} {r : Hs} (h : r.all obNor = true) : WF (BH cs b r) := (frm_BH cs).wf h
/-- an argument that is a list of the frame, an argument that is a value: the call of _law_alike -/
theorem alkV {F : List D → RP} (hF : ∀ x : D, x.nor = true → dsz x ≤ 16777216 → F [x, x] = .val (.bl true)) {fa : FA} {env : En} {h : Hs} {x : D} (h1 : fa env h = .ok [x, x] h) (hn : x.nor = true) (hs : dsz x ≤ 16777216) : fCall F fa env h = .ok (.bl true) h :=
  call_val (ds := [x, x]) h1 (dall_nor _ _ (by simp [hn])) (hF x hn hs)
end PF
namespace P51
open PySem PySem.Spec PyProof.Rows L2 PF
def topS (i : Nat) : Stmt := PySem.Challenge.pw_mergedmail_k51_whole_stacks_and_offers_o.main.body.getD i (.Pass ⟨0, 0, 0, 0⟩)
abbrev s__wall : Stmt := topS 0
abbrev N__wall : List Str := ["k"]
theorem sc__wall : FnScope N__wall ["k"] (defScope s__wall) := ⟨rfl, rfl, rfl, by decide +kernel, rfl, by decide +kernel, by decide +kernel⟩
abbrev s_is_integer : Stmt := topS 5
abbrev N_is_integer : List Str := ["thing"]
theorem sc_is_integer : FnScope N_is_integer ["thing"] (defScope s_is_integer) := ⟨rfl, rfl, rfl, by decide +kernel, rfl, by decide +kernel, by decide +kernel⟩
abbrev s_is_within : Stmt := topS 6
abbrev N_is_within : List Str := ["thing", "least", "most"]
theorem sc_is_within : FnScope N_is_within ["thing", "least", "most"] (defScope s_is_within) := ⟨rfl, rfl, rfl, by decide +kernel, rfl, by decide +kernel, by decide +kernel⟩
abbrev s_slots : Stmt := topS 8
abbrev N_slots : List Str := ["across", "down"]
theorem sc_slots : FnScope N_slots ["across", "down"] (defScope s_slots) := ⟨rfl, rfl, rfl, by decide +kernel, rfl, by decide +kernel, by decide +kernel⟩
abbrev s_need_slot : Stmt := topS 9
abbrev N_need_slot : List Str := ["across", "down", "number"]
theorem sc_need_slot : FnScope N_need_slot ["across", "down", "number"] (defScope s_need_slot) := ⟨rfl, rfl, rfl, by decide +kernel, rfl, by decide +kernel, by decide +kernel⟩
abbrev s_rounded_up : Stmt := topS 10
abbrev N_rounded_up : List Str := ["many", "by"]
theorem sc_rounded_up : FnScope N_rounded_up ["many", "by"] (defScope s_rounded_up) := ⟨rfl, rfl, rfl, by decide +kernel, rfl, by decide +kernel, by decide +kernel⟩
abbrev s_sheets_needed : Stmt := topS 11
abbrev N_sheets_needed : List Str := ["many", "across", "down", "first"]
theorem sc_sheets_needed : FnScope N_sheets_needed ["many", "across", "down", "first"] (defScope s_sheets_needed) := ⟨rfl, rfl, rfl, by decide +kernel, rfl, by decide +kernel, by decide +kernel⟩
abbrev s_cost_of : Stmt := topS 12
abbrev N_cost_of : List Str := ["counts", "offer", "across", "down", "cost", "many"]
theorem sc_cost_of : FnScope N_cost_of ["counts", "offer"] (defScope s_cost_of) := ⟨rfl, rfl, rfl, by decide +kernel, rfl, by decide +kernel, by decide +kernel⟩
abbrev s_least_sheet : Stmt := topS 13
abbrev N_least_sheet : List Str := ["counts", "offers", "index", "offer"]
theorem sc_least_sheet : FnScope N_least_sheet ["counts", "offers"] (defScope s_least_sheet) := ⟨rfl, rfl, rfl, by decide +kernel, rfl, by decide +kernel, by decide +kernel⟩
abbrev s_piled_label : Stmt := topS 15
abbrev N_piled_label : List Str := ["sheet", "slot", "sheets", "many", "label"]
theorem sc_piled_label : FnScope N_piled_label ["sheet", "slot", "sheets", "many"] (defScope s_piled_label) := ⟨rfl, rfl, rfl, by decide +kernel, rfl, by decide +kernel, by decide +kernel⟩
abbrev s_printed_on : Stmt := topS 16
abbrev N_printed_on : List Str := ["sheets", "slots_many", "first", "many", "found", "sheet", "some", "slot", "label"]
theorem sc_printed_on : FnScope N_printed_on ["sheets", "slots_many", "first", "many"] (defScope s_printed_on) := ⟨rfl, rfl, rfl, by decide +kernel, rfl, by decide +kernel, by decide +kernel⟩
abbrev s_piled_order : Stmt := topS 17
abbrev N_piled_order : List Str := ["many", "across", "down", "size"]
theorem sc_piled_order : FnScope N_piled_order ["many", "across", "down"] (defScope s_piled_order) := ⟨rfl, rfl, rfl, by decide +kernel, rfl, by decide +kernel, by decide +kernel⟩
abbrev s_cut_and_laid : Stmt := topS 18
abbrev N_cut_and_laid : List Str := ["printed", "found", "slot", "sheet"]
theorem sc_cut_and_laid : FnScope N_cut_and_laid ["printed"] (defScope s_cut_and_laid) := ⟨rfl, rfl, rfl, by decide +kernel, rfl, by decide +kernel, by decide +kernel⟩
abbrev s_stacks : Stmt := topS 19
abbrev N_stacks : List Str := ["many", "across", "down", "high", "sheets", "first"]
theorem sc_stacks : FnScope N_stacks ["many", "across", "down", "high"] (defScope s_stacks) := ⟨rfl, rfl, rfl, by decide +kernel, rfl, by decide +kernel, by decide +kernel⟩
abbrev s_stacked_order : Stmt := topS 20
abbrev N_stacked_order : List Str := ["many", "across", "down", "high", "size", "found", "first", "last", "begin", "sheets"]
theorem sc_stacked_order : FnScope N_stacked_order ["many", "across", "down", "high"] (defScope s_stacked_order) := ⟨rfl, rfl, rfl, by decide +kernel, rfl, by decide +kernel, by decide +kernel⟩
abbrev s__law_bag : Stmt := topS 22
abbrev N__law_bag : List Str := ["script", "cell"]
theorem sc__law_bag : FnScope N__law_bag ["script"] (defScope s__law_bag) := ⟨rfl, rfl, rfl, by decide +kernel, rfl, by decide +kernel, by decide +kernel⟩
abbrev s__law_take : Stmt := topS 23
abbrev N__law_take : List Str := ["bag", "many", "cell", "stirred", "value", "begin", "second"]
theorem sc__law_take : FnScope N__law_take ["bag", "many"] (defScope s__law_take) := ⟨rfl, rfl, rfl, by decide +kernel, rfl, by decide +kernel, by decide +kernel⟩
abbrev s__law_alike : Stmt := topS 24
abbrev N__law_alike : List Str := ["found", "due", "pairs", "at", "one", "other"]
theorem sc__law_alike : FnScope N__law_alike ["found", "due"] (defScope s__law_alike) := ⟨rfl, rfl, rfl, by decide +kernel, rfl, by decide +kernel, by decide +kernel⟩
abbrev s__law_laid : Stmt := topS 25
abbrev N__law_laid : List Str := ["printed", "found", "slot", "sheet"]
theorem sc__law_laid : FnScope N__law_laid ["printed"] (defScope s__law_laid) := ⟨rfl, rfl, rfl, by decide +kernel, rfl, by decide +kernel, by decide +kernel⟩
abbrev s_law : Stmt := topS 26
abbrev N_law : List Str := ["script", "bag", "turn", "across", "down", "many", "high", "size", "sheets", "due", "first", "printed", "label", "begin", "end", "laid", "sheet", "counts", "again", "offers", "costs", "index", "wide", "tall", "cost", "used", "batch"]
theorem sc_law : FnScope N_law ["script"] (defScope s_law) := ⟨rfl, rfl, rfl, by decide +kernel, rfl, by decide +kernel, by decide +kernel⟩
structure Txt (K : PySem.W.Frag) (mg : Str → Option Value) (a__wall a_is_integer a_is_within a_slots a_need_slot a_rounded_up a_sheets_needed a_cost_of a_least_sheet a_piled_label a_printed_on a_piled_order a_cut_and_laid a_stacks a_stacked_order a__law_bag a__law_take a__law_alike a__law_laid a_law : Addr) (d__wall d_is_integer d_is_within d_slots d_need_slot d_rounded_up d_sheets_needed d_cost_of d_least_sheet d_piled_label d_printed_on d_piled_order d_cut_and_laid d_stacks d_stacked_order d__law_bag d__law_take d__law_alike d__law_laid d_law : FuncData) : Prop where
  F__wall : Fun K "_wall" "_wall" s__wall a__wall d__wall
  g__wall : mg "_wall" = some (.ref a__wall)
  b__wall : Binds K d__wall ["k"] []
  F_is_integer : Fun K "is_integer" "is_integer" s_is_integer a_is_integer d_is_integer
  g_is_integer : mg "is_integer" = some (.ref a_is_integer)
  b_is_integer : Binds K d_is_integer ["thing"] []
  F_is_within : Fun K "is_within" "is_within" s_is_within a_is_within d_is_within
  g_is_within : mg "is_within" = some (.ref a_is_within)
  b_is_within : Binds K d_is_within ["thing", "least", "most"] []
  F_slots : Fun K "slots" "slots" s_slots a_slots d_slots
  g_slots : mg "slots" = some (.ref a_slots)
  b_slots : Binds K d_slots ["across", "down"] []
  F_need_slot : Fun K "need_slot" "need_slot" s_need_slot a_need_slot d_need_slot
  g_need_slot : mg "need_slot" = some (.ref a_need_slot)
  b_need_slot : Binds K d_need_slot ["across", "down", "number"] []
  F_rounded_up : Fun K "rounded_up" "rounded_up" s_rounded_up a_rounded_up d_rounded_up
  g_rounded_up : mg "rounded_up" = some (.ref a_rounded_up)
  b_rounded_up : Binds K d_rounded_up ["many", "by"] []
  F_sheets_needed : Fun K "sheets_needed" "sheets_needed" s_sheets_needed a_sheets_needed d_sheets_needed
  g_sheets_needed : mg "sheets_needed" = some (.ref a_sheets_needed)
  b_sheets_needed : Binds K d_sheets_needed ["many", "across", "down", "first"] []
  F_cost_of : Fun K "cost_of" "cost_of" s_cost_of a_cost_of d_cost_of
  g_cost_of : mg "cost_of" = some (.ref a_cost_of)
  b_cost_of : Binds K d_cost_of ["counts", "offer"] []
  F_least_sheet : Fun K "least_sheet" "least_sheet" s_least_sheet a_least_sheet d_least_sheet
  g_least_sheet : mg "least_sheet" = some (.ref a_least_sheet)
  b_least_sheet : Binds K d_least_sheet ["counts", "offers"] []
  F_piled_label : Fun K "piled_label" "piled_label" s_piled_label a_piled_label d_piled_label
  g_piled_label : mg "piled_label" = some (.ref a_piled_label)
  b_piled_label : Binds K d_piled_label ["sheet", "slot", "sheets", "many"] []
  F_printed_on : Fun K "printed_on" "printed_on" s_printed_on a_printed_on d_printed_on
  g_printed_on : mg "printed_on" = some (.ref a_printed_on)
  b_printed_on : Binds K d_printed_on ["sheets", "slots_many", "first", "many"] []
  F_piled_order : Fun K "piled_order" "piled_order" s_piled_order a_piled_order d_piled_order
  g_piled_order : mg "piled_order" = some (.ref a_piled_order)
  b_piled_order : Binds K d_piled_order ["many", "across", "down"] []
  F_cut_and_laid : Fun K "cut_and_laid" "cut_and_laid" s_cut_and_laid a_cut_and_laid d_cut_and_laid
  g_cut_and_laid : mg "cut_and_laid" = some (.ref a_cut_and_laid)
  b_cut_and_laid : Binds K d_cut_and_laid ["printed"] []
  F_stacks : Fun K "stacks" "stacks" s_stacks a_stacks d_stacks
  g_stacks : mg "stacks" = some (.ref a_stacks)
  b_stacks : Binds K d_stacks ["many", "across", "down", "high"] []
  F_stacked_order : Fun K "stacked_order" "stacked_order" s_stacked_order a_stacked_order d_stacked_order
  g_stacked_order : mg "stacked_order" = some (.ref a_stacked_order)
  b_stacked_order : Binds K d_stacked_order ["many", "across", "down", "high"] []
  F__law_bag : Fun K "_law_bag" "_law_bag" s__law_bag a__law_bag d__law_bag
  g__law_bag : mg "_law_bag" = some (.ref a__law_bag)
  b__law_bag : Binds K d__law_bag ["script"] []
  F__law_take : Fun K "_law_take" "_law_take" s__law_take a__law_take d__law_take
  g__law_take : mg "_law_take" = some (.ref a__law_take)
  b__law_take : Binds K d__law_take ["bag", "many"] []
  F__law_alike : Fun K "_law_alike" "_law_alike" s__law_alike a__law_alike d__law_alike
  g__law_alike : mg "_law_alike" = some (.ref a__law_alike)
  b__law_alike : Binds K d__law_alike ["found", "due"] []
  F__law_laid : Fun K "_law_laid" "_law_laid" s__law_laid a__law_laid d__law_laid
  g__law_laid : mg "_law_laid" = some (.ref a__law_laid)
  b__law_laid : Binds K d__law_laid ["printed"] []
  F_law : Fun K "law" "law" s_law a_law d_law
  g_law : mg "law" = some (.ref a_law)
  b_law : Binds K d_law ["script"] []
  z_abs : mg "abs" = none
  z_bool : mg "bool" = none
  z_enumerate : mg "enumerate" = none
  z_int : mg "int" = none
  z_isinstance : mg "isinstance" = none
  z_len : mg "len" = none
  z_list : mg "list" = none
  z_min : mg "min" = none
  z_range : mg "range" = none
  z_str : mg "str" = none
  z_sum : mg "sum" = none
  z_tuple : mg "tuple" = none
  z_zip : mg "zip" = none
noncomputable def ft__wall_1 : FT := (fTru (fC (.bl true)))
noncomputable def fb__wall_1 : FS := fNext
noncomputable def fs__wall : FS := (fWhile ft__wall_1 fb__wall_1)
noncomputable def F__wall : List D → RP := fun ds => noE (runP 1 N__wall.length fs__wall ds)
theorem ref__wall : ∀ ds, F__wall ds ≠ .no → (runP 1 N__wall.length fs__wall ds = F__wall ds ∧ ∀ e, F__wall ds ≠ .er e) := fun _ h => noE_ref _ h
noncomputable def fs_is_integer : FS := (fRet (fAndV (fIsi (fVar 0) ["int"]) (fNotV (fIsi (fVar 0) ["bool"]))))
noncomputable def F_is_integer : List D → RP := fun ds => noE (runP 1 N_is_integer.length fs_is_integer ds)
theorem ref_is_integer : ∀ ds, F_is_integer ds ≠ .no → (runP 1 N_is_integer.length fs_is_integer ds = F_is_integer ds ∧ ∀ e, F_is_integer ds ≠ .er e) := fun _ h => noE_ref _ h
noncomputable def fs_slots : FS := (fRet (fOp2 mulD (fVar 0) (fVar 1)))
noncomputable def F_slots : List D → RP := fun ds => noE (runP 2 N_slots.length fs_slots ds)
theorem ref_slots : ∀ ds, F_slots ds ≠ .no → (runP 2 N_slots.length fs_slots ds = F_slots ds ∧ ∀ e, F_slots ds ≠ .er e) := fun _ h => noE_ref _ h
noncomputable def fs_rounded_up : FS := (fRet (fUn negD (fOp2 fdivD (fUn negD (fVar 0)) (fVar 1))))
noncomputable def F_rounded_up : List D → RP := fun ds => noE (runP 2 N_rounded_up.length fs_rounded_up ds)
theorem ref_rounded_up : ∀ ds, F_rounded_up ds ≠ .no → (runP 2 N_rounded_up.length fs_rounded_up ds = F_rounded_up ds ∧ ∀ e, F_rounded_up ds ≠ .er e) := fun _ h => noE_ref _ h
noncomputable def fs_piled_label : FS := (fSeq (fAsg (fOp2 addD (fVar 0) (fOp2 mulD (fVar 1) (fVar 2))) (gN 4))
    (fRet (fIf (fTest (fOp2 ltD (fVar 4) (fVar 3))) (fVar 4) (fC .non))))
noncomputable def F_piled_label : List D → RP := fun ds => noE (runP 4 N_piled_label.length fs_piled_label ds)
theorem ref_piled_label : ∀ ds, F_piled_label ds ≠ .no → (runP 4 N_piled_label.length fs_piled_label ds = F_piled_label ds ∧ ∀ e, F_piled_label ds ≠ .er e) := fun _ h => noE_ref _ h
noncomputable def fi_cut_and_laid_1 : FI := (fIter (fVar 0))
noncomputable def fc_cut_and_laid_1 : FT := (fTest (fOp2 notND (fOp2 ixD (fVar 3) (fVar 2)) (fC .non)))
noncomputable def fe_cut_and_laid_1 : FE := (fOp2 ixD (fVar 3) (fVar 2))
noncomputable def fi_cut_and_laid_2 : FI := (fRng1 (fCons (fIf (fTest (fOp2 neD (fVar 0) (fTup fNil))) (fCB lenD (fCons (fOp2 ixD (fVar 0) (fC (.int 0))) fNil)) (fC (.int 0))) fNil))
noncomputable def fb_cut_and_laid_1 : FS := (fDrop (fBM "list" extendD (fVar 1) (fCons (fTmp (fLc fi_cut_and_laid_1 (gN 3) fc_cut_and_laid_1 fe_cut_and_laid_1 [3])) fNil)))
noncomputable def fs_cut_and_laid : FS := (fSeq (fAsg (fTmp (fLst fNil)) (gN 1))
    (fSeq (fFor fi_cut_and_laid_2 (gN 2) fb_cut_and_laid_1)
    (fRet (fCB tupleD (fCons (fVar 1) fNil)))))
noncomputable def F_cut_and_laid : List D → RP := fun ds => noE (runP 1 N_cut_and_laid.length fs_cut_and_laid ds)
theorem ref_cut_and_laid : ∀ ds, F_cut_and_laid ds ≠ .no → (runP 1 N_cut_and_laid.length fs_cut_and_laid ds = F_cut_and_laid ds ∧ ∀ e, F_cut_and_laid ds ≠ .er e) := fun _ h => noE_ref _ h
noncomputable def fi__law_bag_1 : FI := (fIter (fSl slD (fVar 0) fNo (fSo (fC (.int 63)))))
noncomputable def fe__law_bag_1 : FE := (fCB absD (fCons (fVar 1) fNil))
noncomputable def fs__law_bag : FS := (fRet (fLst (fCons (fC (.int 0)) (fCons (fC (.int 1234567891)) (fCons (fC (.int 0)) (fCons (fLc fi__law_bag_1 (gN 1) fYes fe__law_bag_1 [1]) fNil))))))
noncomputable def fs__law_take : FS := (fSeq (fIfS (fTest (fOp2 eqD (fOp2 ixD (fVar 0) (fC (.int 0))) (fC (.int 0)))) (fSeq (fAsg (fTmp (fOp2 ixD (fOp2 addD (fSl slD (fOp2 ixD (fVar 0) (fC (.int 3))) (fSo (fOp2 ixD (fVar 0) (fC (.int 2)))) fNo) (fLst (fCons (fC (.int 0)) fNil))) (fC (.int 0)))) (gN 2))
    (fSeq (fAugL (fVar 0) (fC (.int 2)) (fC (.int 1)) iaddD)
    (fSeq (fIfS (fTest (fOp2 geD (fVar 2) (fOp2 powD (fC (.int 10)) (fC (.int 18))))) (fAsg (fVar 2) (gS (fVar 0) (fC (.int 0)))) fNext)
    (fSeq (fAsg (fOp2 addD (fOp2 addD (fOp2 mulD (fOp2 ixD (fVar 0) (fC (.int 1))) (fC (.int 48271))) (fOp2 modD (fCB intD (fCons (fVar 2) fNil)) (fC (.int 2147483647)))) (fOp2 mulD (fC (.int 7919)) (fOp2 ixD (fVar 0) (fC (.int 2))))) (gN 3))
    (fAsg (fOp2 modD (fCB intD (fCons (fVar 3) fNil)) (fC (.int 2147483647))) (gS (fVar 0) (fC (.int 1)))))))) fNext)
    (fSeq (fIfS (fTest (fOp2 gtD (fOp2 ixD (fVar 0) (fC (.int 0))) (fC (.int 0)))) (fSeq (fAsg (fOp2 modD (fCB intD (fCons (fOp2 ixD (fVar 0) (fC (.int 0))) fNil)) (fVar 1)) (gN 4))
    (fSeq (fAsg (fOp2 fdivD (fCB intD (fCons (fOp2 ixD (fVar 0) (fC (.int 0))) fNil)) (fVar 1)) (gS (fVar 0) (fC (.int 0))))
    (fRet (fVar 4)))) fNext)
    (fSeq (fAsg (fOp2 modD (fCB intD (fCons (fOp2 mulD (fOp2 addD (fOp2 ixD (fVar 0) (fC (.int 1))) (fC (.int 1))) (fC (.int 39373))) fNil)) (fC (.int 1000000007))) (gN 5))
    (fSeq (fAsg (fOp2 modD (fCB intD (fCons (fOp2 mulD (fOp2 modD (fCB intD (fCons (fOp2 mulD (fVar 5) (fVar 5)) fNil)) (fC (.int 998244353))) (fC (.int 30011))) fNil)) (fC (.int 998244353))) (gN 6))
    (fRet (fOp2 modD (fCB intD (fCons (fOp2 fdivD (fVar 6) (fC (.int 7))) fNil)) (fVar 1)))))))
noncomputable def F__law_take : List D → List Int → Bn → RB := runB 2 N__law_take.length fs__law_take
theorem ref__law_take : ∀ ds cs b, F__law_take ds cs b ≠ .no → runB 2 N__law_take.length fs__law_take ds cs b = F__law_take ds cs b := fun _ _ _ _ => rfl
noncomputable def ft__law_alike_1 : FT := (fTest (fOp2 ltD (fVar 3) (fCB lenD (fCons (fVar 2) fNil))))
noncomputable def fb__law_alike_1 : FS := (fSeq (fAsg (fOp2 ixD (fVar 2) (fVar 3)) (gT 2 (gConsF (gN 4) (gConsF (gN 5) gNilF))))
    (fSeq (fAug 3 iaddD (fC (.int 1)))
    (fSeq (fIfS (fOr (fTest (fOp2 neD (fIsi (fVar 4) ["bool"]) (fIsi (fVar 5) ["bool"]))) (fTest (fOp2 neD (fIsi (fVar 4) ["str"]) (fIsi (fVar 5) ["str"])))) (fRet (fC (.bl false))) fNext)
    (fSeq (fIfS (fTest (fOp2 neD (fIsi (fVar 4) ["tuple", "list"]) (fIsi (fVar 5) ["tuple", "list"]))) (fRet (fC (.bl false))) fNext)
    (fIfS (fTru (fIsi (fVar 4) ["tuple", "list"])) (fSeq (fIfS (fOr (fTest (fOp2 neD (fIsi (fVar 4) ["tuple"]) (fIsi (fVar 5) ["tuple"]))) (fTest (fOp2 neD (fCB lenD (fCons (fVar 4) fNil)) (fCB lenD (fCons (fVar 5) fNil))))) (fRet (fC (.bl false))) fNext)
    (fDrop (fBM "list" extendD (fVar 2) (fCons (fTmp (fCB zipD (fCons (fVar 4) (fCons (fVar 5) fNil)))) fNil)))) (fIfS (fTest (fOp2 neD (fVar 4) (fVar 5))) (fRet (fC (.bl false))) fNext))))))
noncomputable def fs__law_alike : FS := (fSeq (fPar 2 3 (fCons (fLst (fCons (fTup (fCons (fVar 0) (fCons (fVar 1) fNil))) fNil)) (fCons (fC (.int 0)) fNil)))
    (fSeq (fWhile ft__law_alike_1 fb__law_alike_1)
    (fRet (fC (.bl true)))))
noncomputable def F__law_alike : List D → RP := fun ds => noE (runP 2 N__law_alike.length fs__law_alike ds)
theorem ref__law_alike : ∀ ds, F__law_alike ds ≠ .no → (runP 2 N__law_alike.length fs__law_alike ds = F__law_alike ds ∧ ∀ e, F__law_alike ds ≠ .er e) := fun _ h => noE_ref _ h
noncomputable def fi__law_laid_1 : FI := (fIter (fVar 0))
noncomputable def fb__law_laid_1 : FS := (fAsg (fTmp (fOp2 addD (fVar 1) (fIf (fTest (fOp2 notND (fOp2 ixD (fVar 3) (fVar 2)) (fC .non))) (fLst (fCons (fOp2 ixD (fVar 3) (fVar 2)) fNil)) (fLst fNil)))) (gN 1))
noncomputable def fi__law_laid_2 : FI := (fRng1 (fCons (fIf (fTest (fOp2 neD (fVar 0) (fTup fNil))) (fCB lenD (fCons (fOp2 ixD (fVar 0) (fC (.int 0))) fNil)) (fC (.int 0))) fNil))
noncomputable def fb__law_laid_2 : FS := (fFor fi__law_laid_1 (gN 3) fb__law_laid_1)
noncomputable def fs__law_laid : FS := (fSeq (fAsg (fTmp (fLst fNil)) (gN 1))
    (fSeq (fFor fi__law_laid_2 (gN 2) fb__law_laid_2)
    (fRet (fVar 1))))
noncomputable def F__law_laid : List D → RP := fun ds => noE (runP 1 N__law_laid.length fs__law_laid ds)
theorem ref__law_laid : ∀ ds, F__law_laid ds ≠ .no → (runP 1 N__law_laid.length fs__law_laid ds = F__law_laid ds ∧ ∀ e, F__law_laid ds ≠ .er e) := fun _ h => noE_ref _ h
noncomputable def fs_is_within : FS := (fRet (fAndV (fCall F_is_integer (fCons (fVar 0) fNil)) (fChain leD leD (fVar 1) (fVar 0) (fVar 2))))
noncomputable def F_is_within : List D → RP := fun ds => noE (runP 3 N_is_within.length fs_is_within ds)
theorem ref_is_within : ∀ ds, F_is_within ds ≠ .no → (runP 3 N_is_within.length fs_is_within ds = F_is_within ds ∧ ∀ e, F_is_within ds ≠ .er e) := fun _ h => noE_ref _ h
noncomputable def fi_printed_on_1 : FI := (fRng1 (fCons (fVar 1) fNil))
noncomputable def fe_printed_on_1 : FE := (fTmp (fCall F_piled_label (fCons (fVar 5) (fCons (fVar 7) (fCons (fVar 0) (fCons (fOp2 subD (fVar 3) (fVar 2)) fNil))))))
noncomputable def fi_printed_on_2 : FI := (fIter (fVar 6))
noncomputable def fe_printed_on_2 : FE := (fIf (fTest (fOp2 isND (fVar 8) (fC .non))) (fC .non) (fOp2 addD (fVar 2) (fVar 8)))
noncomputable def fi_printed_on_3 : FI := (fRng1 (fCons (fVar 0) fNil))
noncomputable def fb_printed_on_1 : FS := (fSeq (fAsg (fVal (fLc fi_printed_on_1 (gN 7) fYes fe_printed_on_1 [7])) (gN 6))
    (fDrop (fBM "list" appendD (fVar 4) (fCons (fTmp (fCB tupleD (fCons (fVal (fLc fi_printed_on_2 (gN 8) fYes fe_printed_on_2 [8])) fNil))) fNil))))
noncomputable def fs_printed_on : FS := (fSeq (fAsg (fTmp (fLst fNil)) (gN 4))
    (fSeq (fFor fi_printed_on_3 (gN 5) fb_printed_on_1)
    (fRet (fVar 4))))
noncomputable def F_printed_on : List D → RP := fun ds => noE (runP 4 N_printed_on.length fs_printed_on ds)
theorem ref_printed_on : ∀ ds, F_printed_on ds ≠ .no → (runP 4 N_printed_on.length fs_printed_on ds = F_printed_on ds ∧ ∀ e, F_printed_on ds ≠ .er e) := fun _ h => noE_ref _ h
noncomputable def fi_stacks_1 : FI := (fRng3 (fCons (fC (.int 0)) (fCons (fVar 4) (fCons (fVar 3) fNil))))
noncomputable def fe_stacks_1 : FE := (fTup (fCons (fVar 5) (fCons (fOp2 subD (fCB min2D (fCons (fOp2 addD (fVar 5) (fVar 3)) (fCons (fVar 4) fNil))) (fC (.int 1))) fNil)))
noncomputable def fs_stacks : FS := (fSeq (fAsg (fTmp (fCall F_rounded_up (fCons (fVar 0) (fCons (fCall F_slots (fCons (fVar 1) (fCons (fVar 2) fNil))) fNil)))) (gN 4))
    (fRet (fCB tupleD (fCons (fVal (fLc fi_stacks_1 (gN 5) fYes fe_stacks_1 [5])) fNil))))
noncomputable def F_stacks : List D → RP := fun ds => noE (runP 4 N_stacks.length fs_stacks ds)
theorem ref_stacks : ∀ ds, F_stacks ds ≠ .no → (runP 4 N_stacks.length fs_stacks ds = F_stacks ds ∧ ∀ e, F_stacks ds ≠ .er e) := fun _ h => noE_ref _ h
noncomputable def fs_need_slot : FS := (fIfS (fTmpB (fNot (fTru (fCall F_is_within (fCons (fVar 2) (fCons (fC (.int 0)) (fCons (fOp2 subD (fCall F_slots (fCons (fVar 0) (fCons (fVar 1) fNil))) (fC (.int 1))) fNil))))))) fNever fNext)
noncomputable def F_need_slot : List D → RP := fun ds => noE (runP 3 N_need_slot.length fs_need_slot ds)
theorem ref_need_slot : ∀ ds, F_need_slot ds ≠ .no → (runP 3 N_need_slot.length fs_need_slot ds = F_need_slot ds ∧ ∀ e, F_need_slot ds ≠ .er e) := fun _ h => noE_ref _ h
noncomputable def fs_piled_order : FS := (fSeq (fAsg (fTmp (fCall F_slots (fCons (fVar 1) (fCons (fVar 2) fNil)))) (gN 3))
    (fRet (fCB tupleD (fCons (fVal (fCall F_printed_on (fCons (fCall F_rounded_up (fCons (fVar 0) (fCons (fVar 3) fNil))) (fCons (fVar 3) (fCons (fC (.int 0)) (fCons (fVar 0) fNil)))))) fNil))))
noncomputable def F_piled_order : List D → RP := fun ds => noE (runP 3 N_piled_order.length fs_piled_order ds)
theorem ref_piled_order : ∀ ds, F_piled_order ds ≠ .no → (runP 3 N_piled_order.length fs_piled_order ds = F_piled_order ds ∧ ∀ e, F_piled_order ds ≠ .er e) := fun _ h => noE_ref _ h
noncomputable def fi_stacked_order_1 : FI := (fIter (fCall F_stacks (fCons (fVar 0) (fCons (fVar 1) (fCons (fVar 2) (fCons (fVar 3) fNil))))))
noncomputable def fb_stacked_order_1 : FS := (fSeq (fPar 8 9 (fCons (fOp2 mulD (fVar 6) (fVar 4)) (fCons (fOp2 addD (fOp2 subD (fVar 7) (fVar 6)) (fC (.int 1))) fNil)))
    (fDrop (fBM "list" extendD (fVar 5) (fCons (fVal (fCall F_printed_on (fCons (fVar 9) (fCons (fVar 4) (fCons (fVar 8) (fCons (fCB min2D (fCons (fVar 0) (fCons (fOp2 addD (fVar 8) (fOp2 mulD (fVar 9) (fVar 4))) fNil))) fNil)))))) fNil))))
noncomputable def fs_stacked_order : FS := (fSeq (fPar 4 5 (fCons (fCall F_slots (fCons (fVar 1) (fCons (fVar 2) fNil))) (fCons (fLst fNil) fNil)))
    (fSeq (fFor fi_stacked_order_1 (gT 2 (gConsF (gN 6) (gConsF (gN 7) gNilF))) fb_stacked_order_1)
    (fRet (fCB tupleD (fCons (fVar 5) fNil)))))
noncomputable def F_stacked_order : List D → RP := fun ds => noE (runP 4 N_stacked_order.length fs_stacked_order ds)
theorem ref_stacked_order : ∀ ds, F_stacked_order ds ≠ .no → (runP 4 N_stacked_order.length fs_stacked_order ds = F_stacked_order ds ∧ ∀ e, F_stacked_order ds ≠ .er e) := fun _ h => noE_ref _ h
noncomputable def fs_sheets_needed : FS := (fSeq (fDrop (fCall F_need_slot (fCons (fVar 1) (fCons (fVar 2) (fCons (fVar 3) fNil)))))
    (fRet (fIf (fTest (fOp2 gtD (fVar 0) (fC (.int 0)))) (fCall F_rounded_up (fCons (fOp2 addD (fVar 3) (fVar 0)) (fCons (fCall F_slots (fCons (fVar 1) (fCons (fVar 2) fNil))) fNil))) (fC (.int 0)))))
noncomputable def F_sheets_needed : List D → RP := fun ds => noE (runP 4 N_sheets_needed.length fs_sheets_needed ds)
theorem ref_sheets_needed : ∀ ds, F_sheets_needed ds ≠ .no → (runP 4 N_sheets_needed.length fs_sheets_needed ds = F_sheets_needed ds ∧ ∀ e, F_sheets_needed ds ≠ .er e) := fun _ h => noE_ref _ h
noncomputable def fi_cost_of_1 : FI := (fIter (fVar 0))
noncomputable def fe_cost_of_1 : FE := (fTmp (fCall F_sheets_needed (fCons (fVar 5) (fCons (fVar 2) (fCons (fVar 3) (fCons (fC (.int 0)) fNil))))))
noncomputable def fs_cost_of : FS := (fSeq (fAsg (fVar 1) (gT 3 (gConsF (gN 2) (gConsF (gN 3) (gConsF (gN 4) gNilF)))))
    (fRet (fOp2 mulD (fVar 4) (fCB sumD (fCons (fVal (fLc fi_cost_of_1 (gN 5) fYes fe_cost_of_1 [5])) fNil)))))
noncomputable def F_cost_of : List D → RP := fun ds => noE (runP 2 N_cost_of.length fs_cost_of ds)
theorem ref_cost_of : ∀ ds, F_cost_of ds ≠ .no → (runP 2 N_cost_of.length fs_cost_of ds = F_cost_of ds ∧ ∀ e, F_cost_of ds ≠ .er e) := fun _ h => noE_ref _ h
noncomputable def fi_least_sheet_1 : FI := (fEnum (fCons (fVar 1) fNil))
noncomputable def fe_least_sheet_1 : FE := (fTmp (fTup (fCons (fCall F_cost_of (fCons (fVar 0) (fCons (fVar 3) fNil))) (fCons (fVar 2) fNil))))
noncomputable def fs_least_sheet : FS := (fRet (fCB minLD (fCons (fVal (fLc fi_least_sheet_1 (gT 2 (gConsF (gN 2) (gConsF (gN 3) gNilF))) fYes fe_least_sheet_1 [2, 3])) fNil)))
noncomputable def F_least_sheet : List D → RP := fun ds => noE (runP 2 N_least_sheet.length fs_least_sheet ds)
theorem ref_least_sheet : ∀ ds, F_least_sheet ds ≠ .no → (runP 2 N_least_sheet.length fs_least_sheet ds = F_least_sheet ds ∧ ∀ e, F_least_sheet ds ≠ .er e) := fun _ h => noE_ref _ h
noncomputable def ft_law_1 : FT := (fTest (fOp2 ltD (fVar 10) (fVar 8)))
noncomputable def fb_law_1 : FS := (fSeq (fDrop (fBM "list" appendD (fVar 9) (fCons (fTup (fCons (fVar 10) (fCons (fOp2 subD (fCB min2D (fCons (fOp2 addD (fVar 10) (fVar 6)) (fCons (fVar 8) fNil))) (fC (.int 1))) fNil))) fNil)))
    (fAsg (fOp2 addD (fVar 10) (fVar 6)) (gN 10)))
noncomputable def fi_law_1 : FI := (fIter (fSl slD (fVar 11) (fSo (fVar 13)) (fSo (fOp2 addD (fVar 14) (fC (.int 1))))))
noncomputable def fc_law_1 : FT := (fTest (fOp2 neD (fCB lenD (fCons (fVar 16) fNil)) (fVar 7)))
noncomputable def fe_law_1 : FE := (fC (.int 1))
noncomputable def fi_law_2 : FI := (fIter (fVar 9))
noncomputable def fb_law_2 : FS := (fSeq (fAsg (fVal (fCall F__law_laid (fCons (fSl slD (fVar 11) (fSo (fVar 13)) (fSo (fOp2 addD (fVar 14) (fC (.int 1))))) fNil))) (gN 15))
    (fSeq (fIfS (fTmpB (fOr (fTest (fOp2 neD (fVar 15) (fVal (fRL2 false (fVar 12) (fOp2 addD (fVar 12) (fCB lenD (fCons (fVar 15) fNil))))))) (fTest (fOp2 neD (fCall F_cut_and_laid (fCons (fSl slD (fVar 11) (fSo (fVar 13)) (fSo (fOp2 addD (fVar 14) (fC (.int 1))))) fNil)) (fCB tupleD (fCons (fVar 15) fNil)))))) (fRet (fC (.bl false))) fNext)
    (fSeq (fAug 12 iaddD (fCB lenD (fCons (fVar 15) fNil)))
    (fSeq (fIfS (fTmpB (fTest (fOp2 neD (fVal (fLc fi_law_1 (gN 16) fc_law_1 fe_law_1 [16])) (fVal (fLst fNil))))) (fRet (fC (.bl false))) fNext)
    (fIfS (fAnd (fTest (fOp2 ltD (fVar 14) (fOp2 subD (fVar 8) (fC (.int 1))))) (fTest (fOp2 neD (fCB lenD (fCons (fVar 15) fNil)) (fOp2 mulD (fVar 6) (fVar 7))))) (fRet (fC (.bl false))) fNext)))))
noncomputable def fi_law_3 : FI := (fRng1 (fCons (fOp2 addD (fC (.int 1)) (fCallB F__law_take (fCons (fVar 1) (fCons (fC (.int 4)) fNil)))) fNil))
noncomputable def fe_law_2 : FE := (fTmp (fCallB F__law_take (fCons (fVar 1) (fCons (fC (.int 30)) fNil))))
noncomputable def fi_law_4 : FI := (fRng1 (fCons (fOp2 addD (fC (.int 1)) (fCallB F__law_take (fCons (fVar 1) (fCons (fC (.int 5)) fNil)))) fNil))
noncomputable def fe_law_3 : FE := (fTmp (fTup (fCons (fOp2 addD (fC (.int 1)) (fCallB F__law_take (fCons (fVar 1) (fCons (fC (.int 4)) fNil)))) (fCons (fOp2 addD (fC (.int 1)) (fCallB F__law_take (fCons (fVar 1) (fCons (fC (.int 4)) fNil)))) (fCons (fCallB F__law_take (fCons (fVar 1) (fCons (fC (.int 9)) fNil))) fNil)))))
noncomputable def fi_law_5 : FI := (fIter (fVar 17))
noncomputable def fe_law_4 : FE := (fCB intD (fCons (fOp2 fdivD (fOp2 subD (fOp2 addD (fVar 26) (fOp2 mulD (fVar 22) (fVar 23))) (fC (.int 1))) (fOp2 mulD (fVar 22) (fVar 23))) fNil))
noncomputable def fi_law_6 : FI := (fIter (fVar 17))
noncomputable def fe_law_5 : FE := (fTmp (fCall F_sheets_needed (fCons (fVar 26) (fCons (fVar 22) (fCons (fVar 23) (fCons (fC (.int 0)) fNil))))))
noncomputable def fi_law_7 : FI := (fEnum (fCons (fVar 19) fNil))
noncomputable def fb_law_3 : FS := (fSeq (fAsg (fVal (fLc fi_law_5 (gN 26) fYes fe_law_4 [26])) (gN 25))
    (fSeq (fIfS (fTmpB (fNot (fTru (fCall F__law_alike (fCons (fVal (fLc fi_law_6 (gN 26) fYes fe_law_5 [26])) (fCons (fVar 25) fNil)))))) (fRet (fC (.bl false))) fNext)
    (fDrop (fBM "list" appendD (fVar 20) (fCons (fTup (fCons (fOp2 mulD (fVar 24) (fCB sumD (fCons (fVar 25) fNil))) (fCons (fVar 21) fNil))) fNil)))))
noncomputable def fi_law_8 : FI := (fRng1 (fCons (fC (.int 6)) fNil))
noncomputable def fb_law_4 : FS := (fSeq (fAsg (fTmp (fTup (fCons (fOp2 addD (fC (.int 1)) (fCallB F__law_take (fCons (fVar 1) (fCons (fC (.int 4)) fNil)))) (fCons (fOp2 addD (fC (.int 1)) (fCallB F__law_take (fCons (fVar 1) (fCons (fC (.int 3)) fNil)))) (fCons (fCallB F__law_take (fCons (fVar 1) (fCons (fC (.int 51)) fNil))) (fCons (fOp2 addD (fC (.int 1)) (fCallB F__law_take (fCons (fVar 1) (fCons (fC (.int 5)) fNil)))) fNil)))))) (gT 4 (gConsF (gN 3) (gConsF (gN 4) (gConsF (gN 5) (gConsF (gN 6) gNilF))))))
    (fSeq (fAsg (fOp2 mulD (fVar 3) (fVar 4)) (gN 7))
    (fSeq (fAsg (fCB intD (fCons (fOp2 fdivD (fOp2 subD (fOp2 addD (fVar 5) (fVar 7)) (fC (.int 1))) (fVar 7)) fNil)) (gN 8))
    (fSeq (fPar 9 10 (fCons (fLst fNil) (fCons (fC (.int 0)) fNil)))
    (fSeq (fWhile ft_law_1 fb_law_1)
    (fSeq (fAsg (fTmp (fCall F_stacked_order (fCons (fVar 5) (fCons (fVar 3) (fCons (fVar 4) (fCons (fVar 6) fNil)))))) (gN 11))
    (fSeq (fIfS (fTmpB (fOr (fNot (fTru (fCall F__law_alike (fCons (fCall F_stacks (fCons (fVar 5) (fCons (fVar 3) (fCons (fVar 4) (fCons (fVar 6) fNil))))) (fCons (fCB tupleD (fCons (fVar 9) fNil)) fNil))))) (fTest (fOp2 neD (fCB lenD (fCons (fVar 11) fNil)) (fVar 8))))) (fRet (fC (.bl false))) fNext)
    (fSeq (fAsg (fC (.int 0)) (gN 12))
    (fSeq (fFor fi_law_2 (gT 2 (gConsF (gN 13) (gConsF (gN 14) gNilF))) fb_law_2)
    (fSeq (fIfS (fTmpB (fOr (fTest (fOp2 neD (fVar 12) (fVar 5))) (fNot (fTru (fCall F__law_alike (fCons (fCall F_stacked_order (fCons (fVar 5) (fCons (fVar 3) (fCons (fVar 4) (fCons (fC (.int 60)) fNil))))) (fCons (fCall F_piled_order (fCons (fVar 5) (fCons (fVar 3) (fCons (fVar 4) fNil)))) fNil))))))) (fRet (fC (.bl false))) fNext)
    (fSeq (fAsg (fTmp (fCB tupleD (fCons (fVal (fLc fi_law_3 (gN 18) fYes fe_law_2 [18])) fNil))) (gN 17))
    (fSeq (fAsg (fTmp (fCB tupleD (fCons (fVal (fLc fi_law_4 (gN 18) fYes fe_law_3 [18])) fNil))) (gN 19))
    (fSeq (fAsg (fTmp (fLst fNil)) (gN 20))
    (fSeq (fFor fi_law_7 (gT 2 (gConsF (gN 21) (gConsF (gT 3 (gConsF (gN 22) (gConsF (gN 23) (gConsF (gN 24) gNilF)))) gNilF))) fb_law_3)
    (fIfS (fTmpB (fNot (fTru (fCall F__law_alike (fCons (fCall F_least_sheet (fCons (fVar 17) (fCons (fVar 19) fNil))) (fCons (fCB minLD (fCons (fVar 20) fNil)) fNil)))))) (fRet (fC (.bl false))) fNext)))))))))))))))
noncomputable def fs_law : FS := (fSeq (fAsg (fNewB (fCons (fVar 0) fNil)) (gN 1))
    (fSeq (fFor fi_law_8 (gN 2) fb_law_4)
    (fRet (fC (.bl true)))))
theorem range_step {n done : Nat} {d : D} {r : List D} (hd : rangeL 0 n = rangeL 0 done ++ (d :: r)) : done < n ∧ d = .int done ∧ rangeL 0 n = rangeL 0 (done + 1) ++ r := by
  have h1 : (rangeL 0 n)[done]? = some d := by
    rw [hd, List.getElem?_append_right (by rw [range_len]; omega), range_len]; simp
  have h2 : done < n := by
    have := (List.getElem?_eq_some_iff.mp h1).1
    rwa [range_len] at this
  have h3 : d = .int done := by
    unfold rangeL at h1
    rw [List.getElem?_map, List.getElem?_range h2] at h1
    have := Option.some.inj h1
    rw [← this]
    show D.int (0 + (done : Int)) = _
    rw [Int.zero_add]
  refine ⟨h2, h3, ?_⟩
  have h4 : rangeL 0 (done + 1) = rangeL 0 done ++ [d] := by
    rw [h3]
    unfold rangeL
    rw [List.range_succ, List.map_append, List.map_cons, List.map_nil, Int.zero_add]
  rw [hd, h4]; simp
theorem range_end {n done : Nat} (hd : rangeL 0 n = rangeL 0 done ++ []) : done = n := by
  have := congrArg List.length hd
  simp only [List.append_nil, range_len] at this
  exact this.symm
theorem slots_ev (a b : Nat) (ha : a ≤ 1000) : F_slots [.int a, .int b] = .val (.int ((a * b : Nat) : Int)) := by
  have h1 : ((a : Int)).natAbs < 18446744073709551616 := by omega
  have e : (a : Int) * (b : Int) = ((a * b : Nat) : Int) := by simp
  unfold F_slots runP fs_slots
  simp (decide := true) only [fVar, fC, fOp2, fUn, fNil, fCons, fTup, fLst, fTest, fAnd, fOr, fNot, fAndV, fOrV, fNotV, fIf, fCB, fNo, fSo, fSl, fTmp, fTmpB, fBM, fM1, fAsg, fDrop, fRet, fRetN, fIfS, fPar, fPar3, fAug, fAugL, fNext, fBreak, fCont, gN, gT, gConsF, gNilF, gS, fYes, fTru, fNewB, fIter, fRng1, fRng2, bnd_ok, tmpR, tmpB, lof, own, seqOf, srcOf, addD, subD, fdivD, modD, powD, mulD, negD, ltD, leD, gtD, geD, ixD, slD, lenD, absD, PF.intD, max2D, min2D, listD, tupleD, zipD, iaddD, appendD, extendD, popD, joinD, truD, tyD, isND, notND, D.isNon, List.getElem?_cons_zero, List.getElem?_cons_succ, List.set_cons_zero, List.set_cons_succ, List.length_cons, List.length_nil, List.cons_append, List.nil_append, List.append_nil, List.take_succ_cons, List.take_zero, List.take_nil, List.all_cons, List.all_nil, Bool.and_true, Bool.true_and, Bool.and_self, if_true, if_false, Bool.false_eq_true, Nat.reduceAdd, Nat.zero_add, Nat.reduceLeDiff, Nat.reduceLT, ite_true, ite_false, reduceIte, List.map_cons, List.map_nil, List.replicate, List.length_append, List.getElem?_nil, Option.isSome_some, beq_self_eq_true, h1, true_or, e, toP, D.pur, noE]
theorem up_ev (m b : Nat) (h0 : 1 ≤ b) (hb : b ≤ 1000) : F_rounded_up [.int m, .int b] = .val (.int (((m + b - 1) / b : Nat) : Int)) := by
  have h1 : ((b : Int) ≠ 0 ∧ ((b : Int)).natAbs < 1073741824) := ⟨by omega, by omega⟩
  have e : -(Int.fdiv (-(m : Int)) (b : Int)) = (((m + b - 1) / b : Nat) : Int) := by
    rw [Int.fdiv_eq_ediv_of_nonneg _ (by omega)]
    have h2 := Nat.div_add_mod (m + b - 1) b
    have h3 := Nat.mod_lt (m + b - 1) (show 0 < b by omega)
    generalize (m + b - 1) / b = q at *
    generalize (m + b - 1) % b = r at *
    have h4 : (-(m : Int)) / (b : Int) = -(q : Int) := by
      rw [Int.ediv_eq_iff_of_pos (by omega)]
      have h5 : ((b * q : Nat) : Int) = (b : Int) * (q : Int) := by simp
      constructor
      · rw [Int.neg_mul, Int.mul_comm]; omega
      · rw [Int.neg_mul, Int.mul_comm]; omega
    omega
  have hz : ((b : Int) = 0) = False := by simp only [eq_iff_iff, iff_false]; omega
  unfold F_rounded_up runP fs_rounded_up
  simp (decide := true) only [fVar, fC, fOp2, fUn, fNil, fCons, fTup, fLst, fTest, fAnd, fOr, fNot, fAndV, fOrV, fNotV, fIf, fCB, fNo, fSo, fSl, fTmp, fTmpB, fBM, fM1, fAsg, fDrop, fRet, fRetN, fIfS, fPar, fPar3, fAug, fAugL, fNext, fBreak, fCont, gN, gT, gConsF, gNilF, gS, fYes, fTru, fNewB, fIter, fRng1, fRng2, bnd_ok, tmpR, tmpB, lof, own, seqOf, srcOf, addD, subD, fdivD, modD, powD, mulD, negD, ltD, leD, gtD, geD, ixD, slD, lenD, absD, PF.intD, max2D, min2D, listD, tupleD, zipD, iaddD, appendD, extendD, popD, joinD, truD, tyD, isND, notND, D.isNon, List.getElem?_cons_zero, List.getElem?_cons_succ, List.set_cons_zero, List.set_cons_succ, List.length_cons, List.length_nil, List.cons_append, List.nil_append, List.append_nil, List.take_succ_cons, List.take_zero, List.take_nil, List.all_cons, List.all_nil, Bool.and_true, Bool.true_and, Bool.and_self, if_true, if_false, Bool.false_eq_true, Nat.reduceAdd, Nat.zero_add, Nat.reduceLeDiff, Nat.reduceLT, ite_true, ite_false, reduceIte, List.map_cons, List.map_nil, List.replicate, List.length_append, List.getElem?_nil, Option.isSome_some, beq_self_eq_true, hz, h1.2, ne_eq, not_false_iff, and_self, e, toP, D.pur, noE]
/-- a label of a pile -/
def plD (s k n m : Nat) : D := if s + k * n < m then .int ((s + k * n : Nat) : Int) else .non
theorem label_ev (s k n m : Nat) (hk : k ≤ 1000) : F_piled_label [.int s, .int k, .int n, .int m] = .val (plD s k n m) := by
  have h1 : ((k : Int)).natAbs < 18446744073709551616 := by omega
  have e : (s : Int) + (k : Int) * (n : Int) = ((s + k * n : Nat) : Int) := by simp
  have e2 : (((s + k * n : Nat) : Int) < (m : Int)) = (s + k * n < m) := by simp only [eq_iff_iff]; omega
  unfold F_piled_label runP fs_piled_label plD
  by_cases c : s + k * n < m
  · simp (decide := true) only [fVar, fC, fOp2, fUn, fNil, fCons, fTup, fLst, fTest, fAnd, fOr, fNot, fAndV, fOrV, fNotV, fIf, fCB, fNo, fSo, fSl, fTmp, fTmpB, fBM, fM1, fAsg, fDrop, fRet, fRetN, fIfS, fPar, fPar3, fAug, fAugL, fNext, fBreak, fCont, gN, gT, gConsF, gNilF, gS, fYes, fTru, fNewB, fIter, fRng1, fRng2, bnd_ok, tmpR, tmpB, lof, own, seqOf, srcOf, addD, subD, fdivD, modD, powD, mulD, negD, ltD, leD, gtD, geD, ixD, slD, lenD, absD, PF.intD, max2D, min2D, listD, tupleD, zipD, iaddD, appendD, extendD, popD, joinD, truD, tyD, isND, notND, D.isNon, List.getElem?_cons_zero, List.getElem?_cons_succ, List.set_cons_zero, List.set_cons_succ, List.length_cons, List.length_nil, List.cons_append, List.nil_append, List.append_nil, List.take_succ_cons, List.take_zero, List.take_nil, List.all_cons, List.all_nil, Bool.and_true, Bool.true_and, Bool.and_self, if_true, if_false, Bool.false_eq_true, Nat.reduceAdd, Nat.zero_add, Nat.reduceLeDiff, Nat.reduceLT, ite_true, ite_false, reduceIte, List.map_cons, List.map_nil, List.replicate, List.length_append, List.getElem?_nil, Option.isSome_some, beq_self_eq_true, fIf, fSeq, h1, true_or, e, e2, c, decide_true, toP, D.pur, noE]
  · simp (decide := true) only [fVar, fC, fOp2, fUn, fNil, fCons, fTup, fLst, fTest, fAnd, fOr, fNot, fAndV, fOrV, fNotV, fIf, fCB, fNo, fSo, fSl, fTmp, fTmpB, fBM, fM1, fAsg, fDrop, fRet, fRetN, fIfS, fPar, fPar3, fAug, fAugL, fNext, fBreak, fCont, gN, gT, gConsF, gNilF, gS, fYes, fTru, fNewB, fIter, fRng1, fRng2, bnd_ok, tmpR, tmpB, lof, own, seqOf, srcOf, addD, subD, fdivD, modD, powD, mulD, negD, ltD, leD, gtD, geD, ixD, slD, lenD, absD, PF.intD, max2D, min2D, listD, tupleD, zipD, iaddD, appendD, extendD, popD, joinD, truD, tyD, isND, notND, D.isNon, List.getElem?_cons_zero, List.getElem?_cons_succ, List.set_cons_zero, List.set_cons_succ, List.length_cons, List.length_nil, List.cons_append, List.nil_append, List.append_nil, List.take_succ_cons, List.take_zero, List.take_nil, List.all_cons, List.all_nil, Bool.and_true, Bool.true_and, Bool.and_self, if_true, if_false, Bool.false_eq_true, Nat.reduceAdd, Nat.zero_add, Nat.reduceLeDiff, Nat.reduceLT, ite_true, ite_false, reduceIte, List.map_cons, List.map_nil, List.replicate, List.length_append, List.getElem?_nil, Option.isSome_some, beq_self_eq_true, fIf, fSeq, h1, true_or, e, e2, c, decide_false, toP, D.pur, noE]
/-- the sheets as they are printed -/
def sh (f : Nat) : D → D
  | .int i => .int ((f : Int) + i)
  | d => d
def rowL (f s size n m : Nat) : List D := (List.range size).map fun k => sh f (plD s k n m)
def rowD (f s size n m : Nat) : D := .tup (rowL f s size n m)
def sheetsD (f n size m : Nat) : List D := (List.range n).map fun s => rowD f s size n m
theorem pl_cases (s k n m : Nat) : plD s k n m = .non ∨ ∃ i : Nat, plD s k n m = .int i := by
  unfold plD; split
  · exact .inr ⟨_, rfl⟩
  · exact .inl rfl
theorem sh_cases (f s k n m : Nat) : sh f (plD s k n m) = .non ∨ ∃ i : Nat, sh f (plD s k n m) = .int i := by
  rcases pl_cases s k n m with h | ⟨i, h⟩ <;> rw [h]
  · exact .inl rfl
  · exact .inr ⟨f + i, by show D.int _ = _; simp⟩
theorem row_len (l : List D) (h : ∀ d ∈ l, d = D.non ∨ ∃ i : Nat, d = D.int i) : purs l = true := purs_of fun d m => by
  rcases h d m with rfl | ⟨i, rfl⟩ <;> rfl
theorem rangeL_map (f : D → D) (n : Nat) : (rangeL 0 n).map f = (List.range n).map fun k => f (.int ((k : Nat) : Int)) := by
  unfold rangeL
  rw [List.map_map]
  apply List.map_congr_left
  intro k _
  show f (.int (0 + (k : Int))) = _
  rw [Int.zero_add]
theorem row_pur (s size n m : Nat) : purs ((List.range size).map fun k => plD s k n m) = true := row_len _ fun d hd => by
  obtain ⟨k, _, rfl⟩ := List.mem_map.mp hd
  exact pl_cases s k n m
theorem row_purF (f s size n m : Nat) : purs (rowL f s size n m) = true := row_len _ fun d hd => by
  obtain ⟨k, _, rfl⟩ := List.mem_map.mp hd
  exact sh_cases f s k n m
theorem sheets_pur (f n size m : Nat) : purs (sheetsD f n size m) = true := purs_of fun x hx => by
  obtain ⟨y, hy, rfl⟩ := List.mem_map.mp hx
  unfold rowD; rw [pur_tup]; exact row_purF _ _ _ _ _
theorem wf_one {acc : List D} (h : purs acc = true) : WF [.lst acc] := by
  show ([Ob.lst acc]).all (belO 1) = true
  simp [belO, bels_nors 1 acc (nors_of_purs _ h)]
theorem one_sheet (f s n size m : Nat) (hs : size ≤ 1000) (acc : List D) (ha : purs acc = true) (hl : acc.length < 16777216) (o6 o7 o8 : Option D) :
    ∃ p6, fb_printed_on_1 [some (.int n), some (.int size), some (.int f), some (.int (f + m : Nat)), some (.ref 0), some (.int s), o6, o7, o8] [.lst acc]
      = .ok (.nx [some (.int n), some (.int size), some (.int f), some (.int (f + m : Nat)), some (.ref 0), some (.int s), p6, o7, o8]) [.lst (acc ++ [rowD f s size n m])] := by
  have hw := wf_one ha
  have c0 : ((size : Int)).natAbs < 4611686018427387904 := by omega
  have q1 : fVal (fLc fi_printed_on_1 (gN 7) fYes fe_printed_on_1 [7]) [some (.int n), some (.int size), some (.int f), some (.int (f + m : Nat)), some (.ref 0), some (.int s), o6, o7, o8] [.lst acc]
      = .ok (.lst ((List.range size).map fun k => plD s k n m)) [.lst acc] := by
    have e := val_lm (fi := fi_printed_on_1) (fg := gN 7) (fe := fe_printed_on_1) (vs := [7]) (env := [some (.int n), some (.int size), some (.int f), some (.int (f + m : Nat)), some (.ref 0), some (.int s), o6, o7, o8]) (h0 := [.lst acc]) (l := rangeL 0 size) (gd := [])
      (fun d => match d with | .int k => plD s k.toNat n m | _ => .non) hw (by
        unfold fi_printed_on_1
        simp (decide := true) only [fVar, fC, fOp2, fUn, fNil, fCons, fTup, fLst, fTest, fAnd, fOr, fNot, fAndV, fOrV, fNotV, fIf, fCB, fNo, fSo, fSl, fTmp, fTmpB, fBM, fM1, fAsg, fDrop, fRet, fRetN, fIfS, fPar, fPar3, fAug, fAugL, fNext, fBreak, fCont, gN, gT, gConsF, gNilF, gS, fYes, fTru, fNewB, fIter, fRng1, fRng2, bnd_ok, tmpR, tmpB, lof, own, seqOf, srcOf, addD, subD, fdivD, modD, powD, mulD, negD, ltD, leD, gtD, geD, ixD, slD, lenD, absD, PF.intD, max2D, min2D, listD, tupleD, zipD, iaddD, appendD, extendD, popD, joinD, truD, tyD, isND, notND, D.isNon, List.getElem?_cons_zero, List.getElem?_cons_succ, List.set_cons_zero, List.set_cons_succ, List.length_cons, List.length_nil, List.cons_append, List.nil_append, List.append_nil, List.take_succ_cons, List.take_zero, List.take_nil, List.all_cons, List.all_nil, Bool.and_true, Bool.true_and, Bool.and_self, if_true, if_false, Bool.false_eq_true, Nat.reduceAdd, Nat.zero_add, Nat.reduceLeDiff, Nat.reduceLT, ite_true, ite_false, reduceIte, List.map_cons, List.map_nil, List.replicate, List.length_append, List.getElem?_nil, Option.isSome_some, beq_self_eq_true, c0, Int.toNat_natCast]) (fun p m => by cases m) (by rw [range_len]; omega) (fun d hm h x => by
        obtain ⟨k, hk, rfl⟩ := mem_range hm
        rw [Int.zero_add]
        have e1 : fCall F_piled_label (fCons (fVar 5) (fCons (fVar 7) (fCons (fVar 0) (fCons (fOp2 subD (fVar 3) (fVar 2)) fNil)))) [some (.int n), some (.int size), some (.int f), some (.int (f + m : Nat)), some (.ref 0), some (.int s), o6, some (.int k), o8] h = .ok (plD s k n m) h :=
          call_val (ds := [.int s, .int k, .int n, .int m]) (by
            have e : ((f + m : Nat) : Int) - (f : Int) = m := by omega
            simp only [fVar, fC, fOp2, fUn, fNil, fCons, fTup, fLst, fTest, fAnd, fOr, fNot, fAndV, fOrV, fNotV, fIf, fCB, fNo, fSo, fSl, fTmp, fTmpB, fBM, fM1, fAsg, fDrop, fRet, fRetN, fIfS, fPar, fPar3, fAug, fAugL, fNext, fBreak, fCont, gN, gT, gConsF, gNilF, gS, fYes, fTru, fNewB, fIter, fRng1, fRng2, bnd_ok, tmpR, tmpB, lof, own, seqOf, srcOf, addD, subD, fdivD, modD, powD, mulD, negD, ltD, leD, gtD, geD, ixD, slD, lenD, absD, PF.intD, max2D, min2D, listD, tupleD, zipD, iaddD, appendD, extendD, popD, joinD, truD, tyD, isND, notND, D.isNon, List.getElem?_cons_zero, List.getElem?_cons_succ, List.set_cons_zero, List.set_cons_succ, List.length_cons, List.length_nil, List.cons_append, List.nil_append, List.append_nil, List.take_succ_cons, List.take_zero, List.take_nil, List.all_cons, List.all_nil, Bool.and_true, Bool.true_and, Bool.and_self, if_true, if_false, Bool.false_eq_true, Nat.reduceAdd, Nat.zero_add, Nat.reduceLeDiff, Nat.reduceLT, ite_true, ite_false, reduceIte, List.map_cons, List.map_nil, List.replicate, List.length_append, List.getElem?_nil, Option.isSome_some, beq_self_eq_true, e]) (dall_nor _ _ rfl) (label_ev s k n m (by omega))
        have hp : (plD s k n m).pur = true := by rcases pl_cases s k n m with h | ⟨i, h⟩ <;> rw [h] <;> rfl
        refine ⟨[some (.int n), some (.int size), some (.int f), some (.int (f + m : Nat)), some (.ref 0), some (.int s), o6, some (.int k), o8], rfl, ?_, nor_of_pur _ hp⟩
        unfold fe_printed_on_1
        simp only [fTmp, e1]
        exact tmpR_id hp)
    rw [e, rangeL_map]
    rfl
  have q2 : fVal (fLc fi_printed_on_2 (gN 8) fYes fe_printed_on_2 [8]) [some (.int n), some (.int size), some (.int f), some (.int (f + m : Nat)), some (.ref 0), some (.int s), some (.lst ((List.range size).map fun k => plD s k n m)), o7, o8] [.lst acc]
      = .ok (.lst (rowL f s size n m)) [.lst acc] := by
    have e := val_lm (fi := fi_printed_on_2) (fg := gN 8) (fe := fe_printed_on_2) (vs := [8]) (env := [some (.int n), some (.int size), some (.int f), some (.int (f + m : Nat)), some (.ref 0), some (.int s), some (.lst ((List.range size).map fun k => plD s k n m)), o7, o8]) (h0 := [.lst acc]) (l := (List.range size).map fun k => plD s k n m) (gd := [])
      (sh f) hw (by
        unfold fi_printed_on_2
        simp only [fVar, fC, fOp2, fUn, fNil, fCons, fTup, fLst, fTest, fAnd, fOr, fNot, fAndV, fOrV, fNotV, fIf, fCB, fNo, fSo, fSl, fTmp, fTmpB, fBM, fM1, fAsg, fDrop, fRet, fRetN, fIfS, fPar, fPar3, fAug, fAugL, fNext, fBreak, fCont, gN, gT, gConsF, gNilF, gS, fYes, fTru, fNewB, fIter, fRng1, fRng2, bnd_ok, tmpR, tmpB, lof, own, seqOf, srcOf, addD, subD, fdivD, modD, powD, mulD, negD, ltD, leD, gtD, geD, ixD, slD, lenD, absD, PF.intD, max2D, min2D, listD, tupleD, zipD, iaddD, appendD, extendD, popD, joinD, truD, tyD, isND, notND, D.isNon, List.getElem?_cons_zero, List.getElem?_cons_succ, List.set_cons_zero, List.set_cons_succ, List.length_cons, List.length_nil, List.cons_append, List.nil_append, List.append_nil, List.take_succ_cons, List.take_zero, List.take_nil, List.all_cons, List.all_nil, Bool.and_true, Bool.true_and, Bool.and_self, if_true, if_false, Bool.false_eq_true, Nat.reduceAdd, Nat.zero_add, Nat.reduceLeDiff, Nat.reduceLT, ite_true, ite_false, reduceIte, List.map_cons, List.map_nil, List.replicate, List.length_append, List.getElem?_nil, Option.isSome_some, beq_self_eq_true]) (fun p m => by cases m) (by simp; omega) (fun d hm h x => by
        obtain ⟨k, hk, rfl⟩ := List.mem_map.mp hm
        refine ⟨[some (.int n), some (.int size), some (.int f), some (.int (f + m : Nat)), some (.ref 0), some (.int s), some (.lst ((List.range size).map fun k => plD s k n m)), o7, some (plD s k n m)], rfl, ?_⟩
        unfold fe_printed_on_2
        rcases pl_cases s k n m with h | ⟨i, h⟩ <;> rw [h] <;> simp only [fVar, fC, fOp2, fUn, fNil, fCons, fTup, fLst, fTest, fAnd, fOr, fNot, fAndV, fOrV, fNotV, fIf, fCB, fNo, fSo, fSl, fTmp, fTmpB, fBM, fM1, fAsg, fDrop, fRet, fRetN, fIfS, fPar, fPar3, fAug, fAugL, fNext, fBreak, fCont, gN, gT, gConsF, gNilF, gS, fYes, fTru, fNewB, fIter, fRng1, fRng2, bnd_ok, tmpR, tmpB, lof, own, seqOf, srcOf, addD, subD, fdivD, modD, powD, mulD, negD, ltD, leD, gtD, geD, ixD, slD, lenD, absD, PF.intD, max2D, min2D, listD, tupleD, zipD, iaddD, appendD, extendD, popD, joinD, truD, tyD, isND, notND, D.isNon, List.getElem?_cons_zero, List.getElem?_cons_succ, List.set_cons_zero, List.set_cons_succ, List.length_cons, List.length_nil, List.cons_append, List.nil_append, List.append_nil, List.take_succ_cons, List.take_zero, List.take_nil, List.all_cons, List.all_nil, Bool.and_true, Bool.true_and, Bool.and_self, if_true, if_false, Bool.false_eq_true, Nat.reduceAdd, Nat.zero_add, Nat.reduceLeDiff, Nat.reduceLT, ite_true, ite_false, reduceIte, List.map_cons, List.map_nil, List.replicate, List.length_append, List.getElem?_nil, Option.isSome_some, beq_self_eq_true, fIf, sh, nor_non, nor_int, and_self])
    rw [e, List.map_map]
    rfl
  refine ⟨some (.lst ((List.range size).map fun k => plD s k n m)), ?_⟩
  have hp : (D.tup (rowL f s size n m)).pur = true := by rw [pur_tup]; exact row_purF _ _ _ _ _
  unfold fb_printed_on_1
  refine (seqE (e := [some (.int n), some (.int size), some (.int f), some (.int (f + m : Nat)), some (.ref 0), some (.int s), some (.lst ((List.range size).map fun k => plD s k n m)), o7, o8]) (h1 := [.lst acc]) ?_).trans ?_
  · simp only [fAsg, q1, bnd_ok]; rfl
  · simp only [fDrop, fBM, fVar, List.getElem?_cons_succ, List.getElem?_cons_zero, bnd_ok, tyD, lof, fCons, fNil, beq_self_eq_true, Option.isSome_some, Bool.and_self, if_true, fTmp, fCB, q2, tupleD, tmpR_id hp, appendD, own, hl, List.set_cons_zero]
    rfl
theorem sheets_purs (f done n size m : Nat) : purs ((List.range done).map fun s => rowD f s size n m) = true := purs_of fun x hx => by
  obtain ⟨y, hy, rfl⟩ := List.mem_map.mp hx
  unfold rowD; rw [pur_tup]; exact row_purF _ _ _ _ _
theorem printed_ev (f n size m : Nat) (hn : n ≤ 1000) (hs : size ≤ 1000) : F_printed_on [.int n, .int size, .int f, .int (f + m : Nat)] = .obj (.lst (sheetsD f n size m)) := by
  obtain ⟨e', h', z1, o5, o6, o7, o8, done, rfl, rfl, z2⟩ := for_rel (fg := gN 5) (fb := fb_printed_on_1) (s := ⟨rangeL 0 n, []⟩) (fun l e h => ∃ o5 o6 o7 o8 done, e = [some (.int n), some (.int size), some (.int f), some (.int (f + m : Nat)), some (.ref 0), o5, o6, o7, o8] ∧ h = [.lst ((List.range done).map fun s => rowD f s size n m)] ∧ rangeL 0 n = rangeL 0 done ++ l) (fun l e h i => good_nil _ _)
    (fun d r e h i => by
      obtain ⟨o5, o6, o7, o8, done, rfl, rfl, hd⟩ := i
      obtain ⟨hk, rfl, hr1⟩ := range_step hd
      obtain ⟨p6, q⟩ := one_sheet f done n size m hs ((List.range done).map fun s => rowD f s size n m) (sheets_purs f done n size m) (by simp; omega) o6 o7 o8
      refine ⟨_, _, rfl, _, _, .inl q, some (.int done), p6, o7, o8, done + 1, rfl, ?_, hr1⟩
      rw [List.range_succ, List.map_append]; rfl)
    (rangeL 0 n) [some (.int n), some (.int size), some (.int f), some (.int (f + m : Nat)), some (.ref 0), none, none, none, none] [.lst []] ⟨none, none, none, none, 0, rfl, rfl, rfl⟩
  obtain rfl := (range_end z2).symm
  have c0 : ((n : Int)).natAbs < 4611686018427387904 := by omega
  have w1 : fFor fi_printed_on_3 (gN 5) fb_printed_on_1 [some (.int n), some (.int size), some (.int f), some (.int (f + m : Nat)), some (.ref 0), none, none, none, none] [.lst []] = .ok (.nx [some (.int n), some (.int size), some (.int f), some (.int (f + m : Nat)), some (.ref 0), o5, o6, o7, o8]) [.lst (sheetsD f n size m)] :=
    forE (by unfold fi_printed_on_3; simp (decide := true) only [fVar, fC, fOp2, fUn, fNil, fCons, fTup, fLst, fTest, fAnd, fOr, fNot, fAndV, fOrV, fNotV, fIf, fCB, fNo, fSo, fSl, fTmp, fTmpB, fBM, fM1, fAsg, fDrop, fRet, fRetN, fIfS, fPar, fPar3, fAug, fAugL, fNext, fBreak, fCont, gN, gT, gConsF, gNilF, gS, fYes, fTru, fNewB, fIter, fRng1, fRng2, bnd_ok, tmpR, tmpB, lof, own, seqOf, srcOf, addD, subD, fdivD, modD, powD, mulD, negD, ltD, leD, gtD, geD, ixD, slD, lenD, absD, PF.intD, max2D, min2D, listD, tupleD, zipD, iaddD, appendD, extendD, popD, joinD, truD, tyD, isND, notND, D.isNon, List.getElem?_cons_zero, List.getElem?_cons_succ, List.set_cons_zero, List.set_cons_succ, List.length_cons, List.length_nil, List.cons_append, List.nil_append, List.append_nil, List.take_succ_cons, List.take_zero, List.take_nil, List.all_cons, List.all_nil, Bool.and_true, Bool.true_and, Bool.and_self, if_true, if_false, Bool.false_eq_true, Nat.reduceAdd, Nat.zero_add, Nat.reduceLeDiff, Nat.reduceLT, ite_true, ite_false, reduceIte, List.map_cons, List.map_nil, List.replicate, List.length_append, List.getElem?_nil, Option.isSome_some, beq_self_eq_true, c0, Int.toNat_natCast]) z1
  have hp := sheets_pur f n size m
  unfold F_printed_on runP fs_printed_on
  simp (decide := true) only [fVar, fC, fOp2, fUn, fNil, fCons, fTup, fLst, fTest, fAnd, fOr, fNot, fAndV, fOrV, fNotV, fIf, fCB, fNo, fSo, fSl, fTmp, fTmpB, fBM, fM1, fAsg, fDrop, fRet, fRetN, fIfS, fPar, fPar3, fAug, fAugL, fNext, fBreak, fCont, gN, gT, gConsF, gNilF, gS, fYes, fTru, fNewB, fIter, fRng1, fRng2, bnd_ok, tmpR, tmpB, lof, own, seqOf, srcOf, addD, subD, fdivD, modD, powD, mulD, negD, ltD, leD, gtD, geD, ixD, slD, lenD, absD, PF.intD, max2D, min2D, listD, tupleD, zipD, iaddD, appendD, extendD, popD, joinD, truD, tyD, isND, notND, D.isNon, List.getElem?_cons_zero, List.getElem?_cons_succ, List.set_cons_zero, List.set_cons_succ, List.length_cons, List.length_nil, List.cons_append, List.nil_append, List.append_nil, List.take_succ_cons, List.take_zero, List.take_nil, List.all_cons, List.all_nil, Bool.and_true, Bool.true_and, Bool.and_self, if_true, if_false, Bool.false_eq_true, Nat.reduceAdd, Nat.zero_add, Nat.reduceLeDiff, Nat.reduceLT, ite_true, ite_false, reduceIte, List.map_cons, List.map_nil, List.replicate, List.length_append, List.getElem?_nil, Option.isSome_some, beq_self_eq_true, fSeq, belO, bels, D.pur, w1, toP, Ob.pur, hp, noE, Nat.lt_irrefl]
/-! ### cut and laid -/
def ckF (k : Nat) (d : D) : Option D := match d with
  | .tup r => match r[k]? with
    | some .non => none
    | some c => some c
    | none => none
  | _ => none
def wide (G : List (List D)) : Nat := match G with
  | [] => 0
  | r :: _ => r.length
def gD (G : List (List D)) : List D := G.map D.tup
def colL (G : List (List D)) (k : Nat) : List D := (gD G).filterMap (ckF k)
def laidL (G : List (List D)) : Nat → List D
  | 0 => []
  | k + 1 => laidL G k ++ colL G k
def okC (d : D) : Prop := d = .non ∨ ∃ i : Int, d = .int i
structure Grid (G : List (List D)) : Prop where
  rows : G.length ≤ 1000
  wid : wide G ≤ 1000
  len : ∀ r ∈ G, r.length = wide G
  cel : ∀ r ∈ G, ∀ d ∈ r, okC d
theorem col_len (G : List (List D)) (k : Nat) : (colL G k).length ≤ G.length := Nat.le_trans (List.length_filterMap_le _ _) (by unfold gD; simp)
theorem laid_len {G : List (List D)} (g : Grid G) : ∀ k, (laidL G k).length ≤ 1000 * k
  | 0 => by simp [laidL]
  | k + 1 => by
    have h1 := laid_len g k
    have h2 := col_len G k
    have h3 := g.rows
    simp only [laidL, List.length_append]; omega
theorem col_int {G : List (List D)} (g : Grid G) (k : Nat) : ∀ d ∈ colL G k, ∃ i : Int, d = .int i := by
  intro d m
  unfold colL gD at m
  obtain ⟨x, h1, h2⟩ := List.mem_filterMap.mp m
  obtain ⟨r, hr, rfl⟩ := List.mem_map.mp h1
  cases hc : r[k]? with
  | none => simp [ckF, hc] at h2
  | some c =>
    rcases g.cel r hr c (List.mem_of_getElem? hc) with rfl | ⟨i, rfl⟩
    · simp [ckF, hc] at h2
    · simp [ckF, hc] at h2; exact ⟨i, h2.symm⟩
theorem laid_int {G : List (List D)} (g : Grid G) : ∀ k, ∀ d ∈ laidL G k, ∃ i : Int, d = .int i
  | 0, d, m => by cases m
  | k + 1, d, m => by
    simp only [laidL, List.mem_append] at m
    rcases m with m | m
    · exact laid_int g k d m
    · exact col_int g k d m
theorem ints_pur {l : List D} (h : ∀ d ∈ l, ∃ i : Int, d = .int i) : purs l = true := purs_of fun d m => by
  obtain ⟨i, rfl⟩ := h d m; rfl
theorem grid_pur {G : List (List D)} (g : Grid G) : purs (gD G) = true := purs_of fun d m => by
  obtain ⟨r, hr, rfl⟩ := List.mem_map.mp m
  rw [pur_tup]
  exact purs_of fun c hc => by rcases g.cel r hr c hc with rfl | ⟨i, rfl⟩ <;> rfl
theorem grid_dpt {G : List (List D)} (g : Grid G) : dpt (.tup (gD G)) ≤ 60 := by
  have h1 : dpts (gD G) ≤ 2 := dpts_le fun d m => by
    obtain ⟨r, hr, rfl⟩ := List.mem_map.mp m
    rw [dpt]
    have : dpts r ≤ 1 := dpts_le fun c hc => by rcases g.cel r hr c hc with rfl | ⟨i, rfl⟩ <;> simp [dpt]
    omega
  rw [dpt]; omega
theorem wide_ev {G : List (List D)} (g : Grid G) (fi : FI) (hf : fi = fRng1 (fCons (fIf (fTest (fOp2 neD (fVar 0) (fTup fNil))) (fCB lenD (fCons (fOp2 ixD (fVar 0) (fC (.int 0))) fNil)) (fC (.int 0))) fNil)) (env : En) (h : Hs) (he : env[0]? = some (some (.tup (gD G)))) :
    fi env h = .ok ⟨rangeL 0 (wide G), []⟩ h := by
  subst hf
  have e1 : neD (.tup (gD G)) (.tup []) h = .ok (.bl (!(gD G).isEmpty)) h := by
    rw [neD_nor (by rw [nor_tup]; exact nors_of_purs _ (grid_pur g)) rfl (grid_dpt g) (by decide), deq, deqs_nil]
  cases G with
  | nil =>
    have e2 : neD (.tup (gD [])) (.tup []) h = .ok (.bl false) h := e1
    simp (decide := true) only [fVar, fC, fOp2, fUn, fNil, fCons, fTup, fLst, fTest, fAnd, fOr, fNot, fAndV, fOrV, fNotV, fIf, fCB, fNo, fSo, fSl, fTmp, fTmpB, fBM, fM1, fAsg, fDrop, fRet, fRetN, fIfS, fPar, fPar3, fAug, fAugL, fNext, fBreak, fCont, gN, gT, gConsF, gNilF, gS, fYes, fTru, fNewB, fIter, fRng1, fRng2, bnd_ok, tmpR, tmpB, lof, own, seqOf, srcOf, addD, subD, fdivD, modD, powD, mulD, negD, ltD, leD, gtD, geD, ixD, slD, lenD, absD, PF.intD, max2D, min2D, listD, tupleD, zipD, iaddD, appendD, extendD, popD, joinD, truD, tyD, isND, notND, D.isNon, List.getElem?_cons_zero, List.getElem?_cons_succ, List.set_cons_zero, List.set_cons_succ, List.length_cons, List.length_nil, List.cons_append, List.nil_append, List.append_nil, List.take_succ_cons, List.take_zero, List.take_nil, List.all_cons, List.all_nil, Bool.and_true, Bool.true_and, Bool.and_self, if_true, if_false, Bool.false_eq_true, Nat.reduceAdd, Nat.zero_add, Nat.reduceLeDiff, Nat.reduceLT, ite_true, ite_false, reduceIte, List.map_cons, List.map_nil, List.replicate, List.length_append, List.getElem?_nil, Option.isSome_some, beq_self_eq_true, fIf, he, e2, wide]
    rfl
  | cons r R =>
    have e2 : neD (.tup (gD (r :: R))) (.tup []) h = .ok (.bl true) h := e1
    have e3 : atI (gD (r :: R)) (0 : Int) = some (.tup r) := by rw [show (0 : Int) = ((0 : Nat) : Int) from rfl, PF.atI_nat]; rfl
    have c0 : ((r.length : Int)).natAbs < 4611686018427387904 := by have := g.wid; simp only [wide] at this; omega
    simp (decide := true) only [fVar, fC, fOp2, fUn, fNil, fCons, fTup, fLst, fTest, fAnd, fOr, fNot, fAndV, fOrV, fNotV, fIf, fCB, fNo, fSo, fSl, fTmp, fTmpB, fBM, fM1, fAsg, fDrop, fRet, fRetN, fIfS, fPar, fPar3, fAug, fAugL, fNext, fBreak, fCont, gN, gT, gConsF, gNilF, gS, fYes, fTru, fNewB, fIter, fRng1, fRng2, bnd_ok, tmpR, tmpB, lof, own, seqOf, srcOf, addD, subD, fdivD, modD, powD, mulD, negD, ltD, leD, gtD, geD, ixD, slD, lenD, absD, PF.intD, max2D, min2D, listD, tupleD, zipD, iaddD, appendD, extendD, popD, joinD, truD, tyD, isND, notND, D.isNon, List.getElem?_cons_zero, List.getElem?_cons_succ, List.set_cons_zero, List.set_cons_succ, List.length_cons, List.length_nil, List.cons_append, List.nil_append, List.append_nil, List.take_succ_cons, List.take_zero, List.take_nil, List.all_cons, List.all_nil, Bool.and_true, Bool.true_and, Bool.and_self, if_true, if_false, Bool.false_eq_true, Nat.reduceAdd, Nat.zero_add, Nat.reduceLeDiff, Nat.reduceLT, ite_true, ite_false, reduceIte, List.map_cons, List.map_nil, List.replicate, List.length_append, List.getElem?_nil, Option.isSome_some, beq_self_eq_true, fIf, he, e2, e3, wide, c0, Int.toNat_natCast]
theorem cell_ev {G : List (List D)} (g : Grid G) (r : List D) (hr : r ∈ G) (k : Nat) (hk : k < wide G) : ∃ c, r[k]? = some c ∧ okC c ∧ ckF k (.tup r) = (match c with | .non => none | c => some c) := by
  have hl := g.len r hr
  refine ⟨r[k]'(by omega), List.getElem?_eq_getElem _, g.cel r hr _ (List.getElem_mem _), ?_⟩
  have e : r[k]? = some (r[k]'(by omega)) := List.getElem?_eq_getElem _
  simp only [ckF, e]
  rcases g.cel r hr (r[k]'(by omega)) (List.getElem_mem _) with h | ⟨i, h⟩ <;> simp only [h]
/-- one column gathered by the comprehension -/
theorem col_ev {G : List (List D)} (g : Grid G) (k : Nat) (hk : k < wide G) (o1 o3 : Option D) (h : Hs) :
    fLc fi_cut_and_laid_1 (gN 3) fc_cut_and_laid_1 fe_cut_and_laid_1 [3] [some (.tup (gD G)), o1, some (.int k), o3] h = .ok (.ref h.length) (h ++ [.lst (colL G k)]) := by
  refine lc_ev (l := gD G) (gd := []) (ckF k) ?_ (fun p m => by cases m) ?_ ?_
  · unfold fi_cut_and_laid_1
    simp only [fVar, fC, fOp2, fUn, fNil, fCons, fTup, fLst, fTest, fAnd, fOr, fNot, fAndV, fOrV, fNotV, fIf, fCB, fNo, fSo, fSl, fTmp, fTmpB, fBM, fM1, fAsg, fDrop, fRet, fRetN, fIfS, fPar, fPar3, fAug, fAugL, fNext, fBreak, fCont, gN, gT, gConsF, gNilF, gS, fYes, fTru, fNewB, fIter, fRng1, fRng2, bnd_ok, tmpR, tmpB, lof, own, seqOf, srcOf, addD, subD, fdivD, modD, powD, mulD, negD, ltD, leD, gtD, geD, ixD, slD, lenD, absD, PF.intD, max2D, min2D, listD, tupleD, zipD, iaddD, appendD, extendD, popD, joinD, truD, tyD, isND, notND, D.isNon, List.getElem?_cons_zero, List.getElem?_cons_succ, List.set_cons_zero, List.set_cons_succ, List.length_cons, List.length_nil, List.cons_append, List.nil_append, List.append_nil, List.take_succ_cons, List.take_zero, List.take_nil, List.all_cons, List.all_nil, Bool.and_true, Bool.true_and, Bool.and_self, if_true, if_false, Bool.false_eq_true, Nat.reduceAdd, Nat.zero_add, Nat.reduceLeDiff, Nat.reduceLT, ite_true, ite_false, reduceIte, List.map_cons, List.map_nil, List.replicate, List.length_append, List.getElem?_nil, Option.isSome_some, beq_self_eq_true]
  · unfold gD; rw [List.length_map]; have := g.rows; omega
  · intro d m acc
    obtain ⟨r, hr, rfl⟩ := List.mem_map.mp m
    obtain ⟨c, h1, h2, h3⟩ := cell_ev g r hr k hk
    refine ⟨[some (.tup (gD G)), o1, some (.int k), some (.tup r)], rfl, ?_⟩
    rw [h3]
    unfold fc_cut_and_laid_1 fe_cut_and_laid_1
    rcases h2 with rfl | ⟨i, rfl⟩
    · simp only [fVar, fC, fOp2, fUn, fNil, fCons, fTup, fLst, fTest, fAnd, fOr, fNot, fAndV, fOrV, fNotV, fIf, fCB, fNo, fSo, fSl, fTmp, fTmpB, fBM, fM1, fAsg, fDrop, fRet, fRetN, fIfS, fPar, fPar3, fAug, fAugL, fNext, fBreak, fCont, gN, gT, gConsF, gNilF, gS, fYes, fTru, fNewB, fIter, fRng1, fRng2, bnd_ok, tmpR, tmpB, lof, own, seqOf, srcOf, addD, subD, fdivD, modD, powD, mulD, negD, ltD, leD, gtD, geD, ixD, slD, lenD, absD, PF.intD, max2D, min2D, listD, tupleD, zipD, iaddD, appendD, extendD, popD, joinD, truD, tyD, isND, notND, D.isNon, List.getElem?_cons_zero, List.getElem?_cons_succ, List.set_cons_zero, List.set_cons_succ, List.length_cons, List.length_nil, List.cons_append, List.nil_append, List.append_nil, List.take_succ_cons, List.take_zero, List.take_nil, List.all_cons, List.all_nil, Bool.and_true, Bool.true_and, Bool.and_self, if_true, if_false, Bool.false_eq_true, Nat.reduceAdd, Nat.zero_add, Nat.reduceLeDiff, Nat.reduceLT, ite_true, ite_false, reduceIte, List.map_cons, List.map_nil, List.replicate, List.length_append, List.getElem?_nil, Option.isSome_some, beq_self_eq_true, PF.atI_nat, h1, Bool.not_true]
    · simp only [fVar, fC, fOp2, fUn, fNil, fCons, fTup, fLst, fTest, fAnd, fOr, fNot, fAndV, fOrV, fNotV, fIf, fCB, fNo, fSo, fSl, fTmp, fTmpB, fBM, fM1, fAsg, fDrop, fRet, fRetN, fIfS, fPar, fPar3, fAug, fAugL, fNext, fBreak, fCont, gN, gT, gConsF, gNilF, gS, fYes, fTru, fNewB, fIter, fRng1, fRng2, bnd_ok, tmpR, tmpB, lof, own, seqOf, srcOf, addD, subD, fdivD, modD, powD, mulD, negD, ltD, leD, gtD, geD, ixD, slD, lenD, absD, PF.intD, max2D, min2D, listD, tupleD, zipD, iaddD, appendD, extendD, popD, joinD, truD, tyD, isND, notND, D.isNon, List.getElem?_cons_zero, List.getElem?_cons_succ, List.set_cons_zero, List.set_cons_succ, List.length_cons, List.length_nil, List.cons_append, List.nil_append, List.append_nil, List.take_succ_cons, List.take_zero, List.take_nil, List.all_cons, List.all_nil, Bool.and_true, Bool.true_and, Bool.and_self, if_true, if_false, Bool.false_eq_true, Nat.reduceAdd, Nat.zero_add, Nat.reduceLeDiff, Nat.reduceLT, ite_true, ite_false, reduceIte, List.map_cons, List.map_nil, List.replicate, List.length_append, List.getElem?_nil, Option.isSome_some, beq_self_eq_true, PF.atI_nat, h1, Bool.not_false, and_self]
theorem cut_ev {G : List (List D)} (g : Grid G) : F_cut_and_laid [.tup (gD G)] = .val (.tup (laidL G (wide G))) := by
  obtain ⟨e', h', z1, o2, o3, done, junk, rfl, rfl, z2⟩ := for_rel (fg := gN 2) (fb := fb_cut_and_laid_1) (s := ⟨rangeL 0 (wide G), []⟩) (fun l e h => ∃ o2 o3 done junk, e = [some (.tup (gD G)), some (.ref 0), o2, o3] ∧ h = .lst (laidL G done) :: junk ∧ rangeL 0 (wide G) = rangeL 0 done ++ l) (fun l e h i => good_nil _ _)
    (fun d r e h i => by
      obtain ⟨o2, o3, done, junk, rfl, rfl, hd⟩ := i
      have hlt : done < wide G ∧ d = .int done ∧ rangeL 0 (done + 1) = rangeL 0 done ++ [d] := by
        have h1 : (rangeL 0 (wide G))[done]? = some d := by
          rw [hd, List.getElem?_append_right (by rw [range_len]; omega), range_len]; simp
        have h2 : done < wide G := by
          have := (List.getElem?_eq_some_iff.mp h1).1
          rwa [range_len] at this
        have h3 : d = .int done := by
          unfold rangeL at h1
          rw [List.getElem?_map, List.getElem?_range h2] at h1
          have := Option.some.inj h1
          rw [← this]
          show D.int (0 + (done : Int)) = _
          rw [Int.zero_add]
        refine ⟨h2, h3, ?_⟩
        rw [h3]
        unfold rangeL
        rw [List.range_succ, List.map_append, List.map_cons, List.map_nil, Int.zero_add]
      obtain ⟨hk, rfl, hr1⟩ := hlt
      have q1 := col_ev g done hk (some (.ref 0)) o3 (.lst (laidL G done) :: junk)
      have hsz : (laidL G done).length + (colL G done).length ≤ 16777216 := by
        have h1 := laid_len g done
        have h2 := col_len G done
        have h3 := g.rows
        have h4 := g.wid
        omega
      have hz : (Ob.lst (laidL G done) :: (junk ++ [Ob.lst (colL G done)]))[junk.length + 1]? = some (.lst (colL G done)) := by simp
      have ht := tmp_new (.lst (laidL G done) :: junk) (.lst (colL G done))
      simp only [List.length_cons, List.cons_append] at ht q1
      refine ⟨_, _, rfl, [some (.tup (gD G)), some (.ref 0), some (.int done), o3], .lst (laidL G (done + 1)) :: (junk ++ [.lst (colL G done)]), .inl ?_, some (.int done), o3, done + 1, _, rfl, rfl, ?_⟩
      · unfold fb_cut_and_laid_1
        simp only [List.set_cons_succ, List.set_cons_zero]
        simp only [fDrop, fBM, fVar, List.getElem?_cons_succ, List.getElem?_cons_zero, bnd_ok, tyD, lof, fCons, fNil, fTmp, beq_self_eq_true, Option.isSome_some, Bool.and_self, if_true, q1, ht, extendD, own, hz, hsz, List.set_cons_zero, laidL]
      · rw [hr1, hd]; simp)
    (rangeL 0 (wide G)) [some (.tup (gD G)), some (.ref 0), none, none] [.lst []] ⟨none, none, 0, [], rfl, rfl, rfl⟩
  have hdone : done = wide G := by
    have := congrArg List.length z2
    simp only [List.append_nil, range_len] at this
    exact this.symm
  subst hdone
  have w1 : fFor fi_cut_and_laid_2 (gN 2) fb_cut_and_laid_1 [some (.tup (gD G)), some (.ref 0), none, none] [.lst []] = .ok (.nx [some (.tup (gD G)), some (.ref 0), o2, o3]) (.lst (laidL G (wide G)) :: junk) :=
    forE (wide_ev g fi_cut_and_laid_2 rfl _ _ rfl) z1
  have hp : purs (laidL G (wide G)) = true := ints_pur (laid_int g _)
  unfold F_cut_and_laid runP fs_cut_and_laid
  simp (decide := true) only [fVar, fC, fOp2, fUn, fNil, fCons, fTup, fLst, fTest, fAnd, fOr, fNot, fAndV, fOrV, fNotV, fIf, fCB, fNo, fSo, fSl, fTmp, fTmpB, fBM, fM1, fAsg, fDrop, fRet, fRetN, fIfS, fPar, fPar3, fAug, fAugL, fNext, fBreak, fCont, gN, gT, gConsF, gNilF, gS, fYes, fTru, fNewB, fIter, fRng1, fRng2, bnd_ok, tmpR, tmpB, lof, own, seqOf, srcOf, addD, subD, fdivD, modD, powD, mulD, negD, ltD, leD, gtD, geD, ixD, slD, lenD, absD, PF.intD, max2D, min2D, listD, tupleD, zipD, iaddD, appendD, extendD, popD, joinD, truD, tyD, isND, notND, D.isNon, List.getElem?_cons_zero, List.getElem?_cons_succ, List.set_cons_zero, List.set_cons_succ, List.length_cons, List.length_nil, List.cons_append, List.nil_append, List.append_nil, List.take_succ_cons, List.take_zero, List.take_nil, List.all_cons, List.all_nil, Bool.and_true, Bool.true_and, Bool.and_self, if_true, if_false, Bool.false_eq_true, Nat.reduceAdd, Nat.zero_add, Nat.reduceLeDiff, Nat.reduceLT, ite_true, ite_false, reduceIte, List.map_cons, List.map_nil, List.replicate, List.length_append, List.getElem?_nil, Option.isSome_some, beq_self_eq_true, fSeq, belO, bels, D.pur, w1, toP, hp, noE, Nat.lt_irrefl]
theorem ints_dpt {l : List D} (h : ∀ d ∈ l, ∃ i : Int, d = .int i) : dpts l = 0 := dpts_zero fun d m => by obtain ⟨i, rfl⟩ := h d m; simp [dpt]
theorem range_int (n : Nat) : ∀ d ∈ rangeL 0 n, ∃ i : Int, d = .int i := fun d m => by obtain ⟨i, _, rfl⟩ := mem_range m; exact ⟨_, rfl⟩
theorem laid_small {G : List (List D)} (g : Grid G) : (laidL G (wide G)).length ≤ 1000000 := by
  have h1 := laid_len g (wide G)
  have h2 := g.wid
  omega
/-! ### the law's own laying -/
theorem lay_ev {G : List (List D)} (g : Grid G) (k : Nat) (hk : k < wide G) : ∀ (R : List (List D)), (∀ r ∈ R, r ∈ G) → ∀ (done : List (List D)) (acc : List D) (h : Hs) (j : Nat) (o3 : Option D), h.all Ob.pur = true → h[j]? = some (.lst acc) → acc.length + R.length ≤ 16777216 →
    ∃ h' j' p3, forN (gN 3) fb__law_laid_1 ⟨gD G, []⟩ (R.map D.tup) [some (.tup (gD G)), some (.ref j), some (.int k), o3] h = .ok (.nx [some (.tup (gD G)), some (.ref j'), some (.int k), p3]) h' ∧ h'.all Ob.pur = true ∧ h'[j']? = some (.lst (acc ++ (R.map D.tup).filterMap (ckF k)))
  | [], _, _, acc, h, j, o3, hp, hj, _ => ⟨h, j, o3, by unfold forN; rw [List.map_nil]; simp only [good_nil, if_true], hp, by simpa using hj⟩
  | r :: R, hR, done, acc, h, j, o3, hp, hj, hl => by
    obtain ⟨c, h1, h2, h3⟩ := cell_ev g r (hR r List.mem_cons_self) k hk
    simp only [List.length_cons] at hl
    have hacc : purs acc = true := by
      have := List.all_eq_true.mp hp _ (List.mem_of_getElem? hj)
      exact this
    have step : ∃ h2 j2 x, fb__law_laid_1 [some (.tup (gD G)), some (.ref j), some (.int k), some (.tup r)] h = .ok (.nx [some (.tup (gD G)), some (.ref j2), some (.int k), some (.tup r)]) h2 ∧ h2.all Ob.pur = true ∧ h2[j2]? = some (.lst (acc ++ x)) ∧ x.length ≤ 1 ∧ ((.tup r :: R.map D.tup).filterMap (ckF k)) = x ++ (R.map D.tup).filterMap (ckF k) := by
      have go : ∀ x : List D, x.length ≤ 1 → purs x = true → fIf (fTest (fOp2 notND (fOp2 ixD (fVar 3) (fVar 2)) (fC .non))) (fLst (fCons (fOp2 ixD (fVar 3) (fVar 2)) fNil)) (fLst fNil) [some (.tup (gD G)), some (.ref j), some (.int k), some (.tup r)] h = .ok (.ref h.length) (h ++ [.lst x]) →
          fb__law_laid_1 [some (.tup (gD G)), some (.ref j), some (.int k), some (.tup r)] h = .ok (.nx [some (.tup (gD G)), some (.ref h.length), some (.int k), some (.tup r)]) (h ++ [.lst (acc ++ x)]) := by
        intro x hx hpx q
        have hj' : (h ++ [Ob.lst x])[j]? = some (.lst acc) := by rw [List.getElem?_append_left (List.getElem?_eq_some_iff.mp hj).1]; exact hj
        have hx' : (h ++ [Ob.lst x])[h.length]? = some (.lst x) := by simp
        have hsz : acc.length + x.length ≤ 16777216 := by omega
        have hpp : purs (acc ++ x) = true := by rw [purs_append, hacc, hpx]; rfl
        have ha : addD (.ref j) (.ref h.length) (h ++ [.lst x]) = .ok (.ref (h.length + 1)) (h ++ [.lst x] ++ [.lst (acc ++ x)]) := by
          simp only [addD, lof, hj', hx', hsz, if_true, List.length_append, List.length_cons, List.length_nil, Nat.zero_add]
        have ht := tmp_l (h := h) (junk := [.lst x]) (m := h.length + 1) hp rfl hpp
        unfold fb__law_laid_1
        simp only [fAsg, fTmp, fOp2, q, fVar, List.getElem?_cons_succ, List.getElem?_cons_zero, bnd_ok, ha, ht, gN, List.set_cons_succ, List.set_cons_zero]
      rcases h2 with rfl | ⟨i, rfl⟩
      · refine ⟨_, _, [], go [] (by decide) rfl ?_, ?_, by simp, by decide, ?_⟩
        · simp (decide := true) only [fVar, fC, fOp2, fUn, fNil, fCons, fTup, fLst, fTest, fAnd, fOr, fNot, fAndV, fOrV, fNotV, fIf, fCB, fNo, fSo, fSl, fTmp, fTmpB, fBM, fM1, fAsg, fDrop, fRet, fRetN, fIfS, fPar, fPar3, fAug, fAugL, fNext, fBreak, fCont, gN, gT, gConsF, gNilF, gS, fYes, fTru, fNewB, fIter, fRng1, fRng2, bnd_ok, tmpR, tmpB, lof, own, seqOf, srcOf, addD, subD, fdivD, modD, powD, mulD, negD, ltD, leD, gtD, geD, ixD, slD, lenD, absD, PF.intD, max2D, min2D, listD, tupleD, zipD, iaddD, appendD, extendD, popD, joinD, truD, tyD, isND, notND, D.isNon, List.getElem?_cons_zero, List.getElem?_cons_succ, List.set_cons_zero, List.set_cons_succ, List.length_cons, List.length_nil, List.cons_append, List.nil_append, List.append_nil, List.take_succ_cons, List.take_zero, List.take_nil, List.all_cons, List.all_nil, Bool.and_true, Bool.true_and, Bool.and_self, if_true, if_false, Bool.false_eq_true, Nat.reduceAdd, Nat.zero_add, Nat.reduceLeDiff, Nat.reduceLT, ite_true, ite_false, reduceIte, List.map_cons, List.map_nil, List.replicate, List.length_append, List.getElem?_nil, Option.isSome_some, beq_self_eq_true, fIf, PF.atI_nat, h1, Bool.not_true]
        · rw [List.all_append, hp]; simpa [Ob.pur] using hacc
        · rw [List.filterMap_cons, h3]; rfl
      · refine ⟨_, _, [.int i], go [.int i] (Nat.le_refl 1) rfl ?_, ?_, by simp, Nat.le_refl 1, ?_⟩
        · simp (decide := true) only [fVar, fC, fOp2, fUn, fNil, fCons, fTup, fLst, fTest, fAnd, fOr, fNot, fAndV, fOrV, fNotV, fIf, fCB, fNo, fSo, fSl, fTmp, fTmpB, fBM, fM1, fAsg, fDrop, fRet, fRetN, fIfS, fPar, fPar3, fAug, fAugL, fNext, fBreak, fCont, gN, gT, gConsF, gNilF, gS, fYes, fTru, fNewB, fIter, fRng1, fRng2, bnd_ok, tmpR, tmpB, lof, own, seqOf, srcOf, addD, subD, fdivD, modD, powD, mulD, negD, ltD, leD, gtD, geD, ixD, slD, lenD, absD, PF.intD, max2D, min2D, listD, tupleD, zipD, iaddD, appendD, extendD, popD, joinD, truD, tyD, isND, notND, D.isNon, List.getElem?_cons_zero, List.getElem?_cons_succ, List.set_cons_zero, List.set_cons_succ, List.length_cons, List.length_nil, List.cons_append, List.nil_append, List.append_nil, List.take_succ_cons, List.take_zero, List.take_nil, List.all_cons, List.all_nil, Bool.and_true, Bool.true_and, Bool.and_self, if_true, if_false, Bool.false_eq_true, Nat.reduceAdd, Nat.zero_add, Nat.reduceLeDiff, Nat.reduceLT, ite_true, ite_false, reduceIte, List.map_cons, List.map_nil, List.replicate, List.length_append, List.getElem?_nil, Option.isSome_some, beq_self_eq_true, fIf, PF.atI_nat, h1, Bool.not_false]
        · rw [List.all_append, hp]; simp [Ob.pur, hacc, D.pur]
        · rw [List.filterMap_cons, h3]; rfl
    obtain ⟨h2', j2, x, q1, q2, q3, q4, q5⟩ := step
    obtain ⟨h', j', p3, z1, z2, z3⟩ := lay_ev g k hk R (fun r' m => hR r' (List.mem_cons_of_mem _ m)) (done ++ [r]) (acc ++ x) h2' j2 (some (.tup r)) q2 q3 (by rw [List.length_append]; omega)
    refine ⟨h', j', p3, ?_, z2, ?_⟩
    · rw [List.map_cons]
      unfold forN
      rw [if_pos (good_nil _ _)]
      simp only [gN, List.set_cons_succ, List.set_cons_zero, bnd_ok]
      rw [q1]
      simp only [bnd_ok]
      exact z1
    · rw [z3, List.map_cons, q5, List.append_assoc]
theorem law_laid_ev {G : List (List D)} (g : Grid G) : F__law_laid [.tup (gD G)] = .obj (.lst (laidL G (wide G))) := by
  obtain ⟨e', h', z1, o2, o3, done, j, rfl, hp, hj, z2⟩ := for_rel (fg := gN 2) (fb := fb__law_laid_2) (s := ⟨rangeL 0 (wide G), []⟩) (fun l e h => ∃ o2 o3 done j, e = [some (.tup (gD G)), some (.ref j), o2, o3] ∧ h.all Ob.pur = true ∧ h[j]? = some (.lst (laidL G done)) ∧ rangeL 0 (wide G) = rangeL 0 done ++ l) (fun l e h i => good_nil _ _)
    (fun d r e h i => by
      obtain ⟨o2, o3, done, j, rfl, hp, hj, hd⟩ := i
      have hlt : done < wide G ∧ d = .int done ∧ rangeL 0 (done + 1) = rangeL 0 done ++ [d] := by
        have h1 : (rangeL 0 (wide G))[done]? = some d := by
          rw [hd, List.getElem?_append_right (by rw [range_len]; omega), range_len]; simp
        have h2 : done < wide G := by
          have := (List.getElem?_eq_some_iff.mp h1).1
          rwa [range_len] at this
        have h3 : d = .int done := by
          unfold rangeL at h1
          rw [List.getElem?_map, List.getElem?_range h2] at h1
          have := Option.some.inj h1
          rw [← this]
          show D.int (0 + (done : Int)) = _
          rw [Int.zero_add]
        refine ⟨h2, h3, ?_⟩
        rw [h3]
        unfold rangeL
        rw [List.range_succ, List.map_append, List.map_cons, List.map_nil, Int.zero_add]
      obtain ⟨hk, rfl, hr1⟩ := hlt
      have h1 := laid_len g done
      have h3 := g.rows
      have h4 := g.wid
      obtain ⟨h', j', p3, y1, y2, y3⟩ := lay_ev g done hk G (fun r m => m) [] (laidL G done) h j o3 hp hj (by omega)
      refine ⟨_, _, rfl, [some (.tup (gD G)), some (.ref j'), some (.int done), p3], h', .inl ?_, some (.int done), p3, done + 1, j', rfl, y2, y3, ?_⟩
      · unfold fb__law_laid_2
        exact forE (s := ⟨gD G, []⟩) (by unfold fi__law_laid_1; simp only [fVar, fC, fOp2, fUn, fNil, fCons, fTup, fLst, fTest, fAnd, fOr, fNot, fAndV, fOrV, fNotV, fIf, fCB, fNo, fSo, fSl, fTmp, fTmpB, fBM, fM1, fAsg, fDrop, fRet, fRetN, fIfS, fPar, fPar3, fAug, fAugL, fNext, fBreak, fCont, gN, gT, gConsF, gNilF, gS, fYes, fTru, fNewB, fIter, fRng1, fRng2, bnd_ok, tmpR, tmpB, lof, own, seqOf, srcOf, addD, subD, fdivD, modD, powD, mulD, negD, ltD, leD, gtD, geD, ixD, slD, lenD, absD, PF.intD, max2D, min2D, listD, tupleD, zipD, iaddD, appendD, extendD, popD, joinD, truD, tyD, isND, notND, D.isNon, List.getElem?_cons_zero, List.getElem?_cons_succ, List.set_cons_zero, List.set_cons_succ, List.length_cons, List.length_nil, List.cons_append, List.nil_append, List.append_nil, List.take_succ_cons, List.take_zero, List.take_nil, List.all_cons, List.all_nil, Bool.and_true, Bool.true_and, Bool.and_self, if_true, if_false, Bool.false_eq_true, Nat.reduceAdd, Nat.zero_add, Nat.reduceLeDiff, Nat.reduceLT, ite_true, ite_false, reduceIte, List.map_cons, List.map_nil, List.replicate, List.length_append, List.getElem?_nil, Option.isSome_some, beq_self_eq_true]) y1
      · rw [hr1, hd]; simp)
    (rangeL 0 (wide G)) [some (.tup (gD G)), some (.ref 0), none, none] [.lst []] ⟨none, none, 0, 0, rfl, rfl, rfl, rfl⟩
  have hdone : done = wide G := by
    have := congrArg List.length z2
    simp only [List.append_nil, range_len] at this
    exact this.symm
  subst hdone
  have w1 : fFor fi__law_laid_2 (gN 2) fb__law_laid_2 [some (.tup (gD G)), some (.ref 0), none, none] [.lst []] = .ok (.nx [some (.tup (gD G)), some (.ref j), o2, o3]) h' :=
    forE (wide_ev g fi__law_laid_2 rfl _ _ rfl) z1
  have hpp : purs (laidL G (wide G)) = true := ints_pur (laid_int g _)
  unfold F__law_laid runP fs__law_laid
  simp (decide := true) only [fVar, fC, fOp2, fUn, fNil, fCons, fTup, fLst, fTest, fAnd, fOr, fNot, fAndV, fOrV, fNotV, fIf, fCB, fNo, fSo, fSl, fTmp, fTmpB, fBM, fM1, fAsg, fDrop, fRet, fRetN, fIfS, fPar, fPar3, fAug, fAugL, fNext, fBreak, fCont, gN, gT, gConsF, gNilF, gS, fYes, fTru, fNewB, fIter, fRng1, fRng2, bnd_ok, tmpR, tmpB, lof, own, seqOf, srcOf, addD, subD, fdivD, modD, powD, mulD, negD, ltD, leD, gtD, geD, ixD, slD, lenD, absD, PF.intD, max2D, min2D, listD, tupleD, zipD, iaddD, appendD, extendD, popD, joinD, truD, tyD, isND, notND, D.isNon, List.getElem?_cons_zero, List.getElem?_cons_succ, List.set_cons_zero, List.set_cons_succ, List.length_cons, List.length_nil, List.cons_append, List.nil_append, List.append_nil, List.take_succ_cons, List.take_zero, List.take_nil, List.all_cons, List.all_nil, Bool.and_true, Bool.true_and, Bool.and_self, if_true, if_false, Bool.false_eq_true, Nat.reduceAdd, Nat.zero_add, Nat.reduceLeDiff, Nat.reduceLT, ite_true, ite_false, reduceIte, List.map_cons, List.map_nil, List.replicate, List.length_append, List.getElem?_nil, Option.isSome_some, beq_self_eq_true, fSeq, belO, bels, D.pur, w1, toP, Ob.pur, hpp, noE, Nat.lt_irrefl, hj, Nat.not_lt_zero]
theorem grid_mk {G : List (List D)} (w : Nat) (h1 : ∀ r ∈ G, r.length = w) (h2 : ∀ r ∈ G, ∀ d ∈ r, okC d) (h3 : G.length ≤ 1000) (h4 : w ≤ 1000) : Grid G := by
  have hw : G = [] ∨ wide G = w := by
    cases G with
    | nil => exact .inl rfl
    | cons r R => exact .inr (h1 r List.mem_cons_self)
  refine ⟨h3, ?_, ?_, h2⟩
  · rcases hw with z | z
    · subst z; simp [wide]
    · rw [z]; exact h4
  · intro r hr
    rcases hw with z | z
    · subst z; cases hr
    · rw [z]; exact h1 r hr
def PG (n size m : Nat) : List (List D) := (List.range n).map fun s => (List.range size).map fun k => plD s k n m
theorem PG_row {n size m : Nat} {r : List D} (h : r ∈ PG n size m) : r.length = size ∧ ∀ d ∈ r, okC d := by
  obtain ⟨s, _, rfl⟩ := List.mem_map.mp h
  refine ⟨by simp, fun d hd => ?_⟩
  obtain ⟨k, _, rfl⟩ := List.mem_map.mp hd
  rcases pl_cases s k n m with z | ⟨i, z⟩ <;> rw [z]
  · exact .inl rfl
  · exact .inr ⟨_, rfl⟩
theorem PG_grid (n size m : Nat) (hn : n ≤ 1000) (hs : size ≤ 1000) : Grid (PG n size m) := grid_mk size (fun r h => (PG_row h).1) (fun r h => (PG_row h).2) (by simp [PG]; exact hn) hs
theorem fm_cut (a m : Nat) : ∀ n : Nat, (List.range n).filterMap (fun s => if s + a < m then some (D.int ((s + a : Nat) : Int)) else none) = (List.range (min n (m - a))).map fun s => D.int ((s + a : Nat) : Int)
  | 0 => by simp
  | n + 1 => by
    rw [List.range_succ, List.filterMap_append, fm_cut a m n]
    by_cases c : n + a < m
    · rw [List.filterMap_cons, if_pos c, show min (n + 1) (m - a) = n + 1 by omega, show min n (m - a) = n by omega, List.range_succ, List.map_append]; rfl
    · rw [List.filterMap_cons, if_neg c, show min (n + 1) (m - a) = min n (m - a) by omega]; simp
theorem range_add_D (x y : Nat) : rangeL 0 (x + y) = rangeL 0 x ++ (List.range y).map fun s => D.int ((s + x : Nat) : Int) := by
  unfold rangeL
  rw [List.range_add, List.map_append, List.map_map]
  congr 1
  apply List.map_congr_left
  intro s _
  show D.int (0 + ((x + s : Nat) : Int)) = _
  rw [Int.zero_add, Nat.add_comm]
theorem col_PG (n size m k : Nat) (hk : k < size) : colL (PG n size m) k = (List.range (min n (m - k * n))).map fun s => D.int ((s + k * n : Nat) : Int) := by
  rw [← fm_cut]
  unfold colL gD PG
  rw [List.map_map, List.filterMap_map]
  apply SR.fm_congr
  intro s _
  have e : ((List.range size).map fun k => plD s k n m)[k]? = some (plD s k n m) := by
    rw [List.getElem?_map, List.getElem?_range hk]; rfl
  show ckF k (.tup ((List.range size).map fun k => plD s k n m)) = _
  simp only [ckF, e]
  unfold plD
  by_cases c : s + k * n < m
  · simp only [if_pos c]
  · simp only [if_neg c]
theorem laid_PG (n size m : Nat) : ∀ j, j ≤ size → laidL (PG n size m) j = rangeL 0 (min m (j * n))
  | 0, _ => by simp [laidL, rangeL]
  | j + 1, h => by
    rw [laidL, laid_PG n size m j (by omega), col_PG n size m j (by omega)]
    have e : (j + 1) * n = j * n + n := by rw [Nat.add_mul, Nat.one_mul]
    rw [e]
    generalize j * n = x
    by_cases c : x ≤ m
    · rw [show min m x = x by omega, show min m (x + n) = x + min n (m - x) by omega, range_add_D]
    · rw [show min n (m - x) = 0 by omega, show min m (x + n) = min m x by omega]; simp
theorem laid_all (m size : Nat) (hs : 1 ≤ size) : laidL (PG ((m + size - 1) / size) size m) (wide (PG ((m + size - 1) / size) size m)) = rangeL 0 m := by
  by_cases c : (m + size - 1) / size = 0
  · have hm : m = 0 := by
      rw [Nat.div_eq_zero_iff] at c
      rcases c with c | c <;> omega
    rw [c, hm]
    rfl
  · obtain ⟨n, hn⟩ : ∃ n, (m + size - 1) / size = n + 1 := Nat.exists_eq_succ_of_ne_zero c
    have hw : wide (PG ((m + size - 1) / size) size m) = size := by
      rw [hn]
      unfold PG
      rw [List.range_succ_eq_map, List.map_cons]
      simp [wide]
    rw [hw, laid_PG _ _ _ size (Nat.le_refl _)]
    have h2 := Nat.div_add_mod (m + size - 1) size
    have h3 := Nat.mod_lt (m + size - 1) (show 0 < size by omega)
    generalize (m + size - 1) / size = q at *
    rw [show min m (size * q) = m by omega]
/-! ### the sheets of one stack -/
def GS (f n size m : Nat) : List (List D) := (List.range n).map fun s => rowL f s size n m
theorem gD_GS (f n size m : Nat) : gD (GS f n size m) = sheetsD f n size m := by
  unfold gD GS sheetsD rowD
  rw [List.map_map]; rfl
theorem GS_PG (f n size m : Nat) : GS f n size m = (PG n size m).map fun r => r.map (sh f) := by
  unfold GS PG rowL
  rw [List.map_map]
  apply List.map_congr_left
  intro s _
  show _ = List.map (sh f) _
  rw [List.map_map]; rfl
theorem sh_okC {f : Nat} {d : D} (h : okC d) : okC (sh f d) := by
  rcases h with rfl | ⟨i, rfl⟩
  · exact .inl rfl
  · exact .inr ⟨_, rfl⟩
theorem GS_grid (f n size m : Nat) (hn : n ≤ 1000) (hs : size ≤ 1000) : Grid (GS f n size m) := by
  refine grid_mk size (fun r h => ?_) (fun r h => ?_) (by simp [GS]; exact hn) hs
  · obtain ⟨s, _, rfl⟩ := List.mem_map.mp h
    simp [rowL]
  · obtain ⟨s, _, rfl⟩ := List.mem_map.mp h
    intro d hd
    obtain ⟨k, _, rfl⟩ := List.mem_map.mp hd
    rcases sh_cases f s k n m with z | ⟨i, z⟩ <;> rw [z]
    · exact .inl rfl
    · exact .inr ⟨_, rfl⟩
theorem ck_sh (f k : Nat) (r : List D) (h : ∀ d ∈ r, okC d) : ckF k (.tup (r.map (sh f))) = (ckF k (.tup r)).map (sh f) := by
  unfold ckF
  dsimp only
  rw [List.getElem?_map]
  cases e : r[k]? with
  | none => rfl
  | some c =>
    rcases h c (List.mem_of_getElem? e) with rfl | ⟨i, rfl⟩ <;> rfl
theorem col_sh (f k : Nat) : ∀ (G : List (List D)), (∀ r ∈ G, ∀ d ∈ r, okC d) → colL (G.map fun r => r.map (sh f)) k = (colL G k).map (sh f)
  | [], _ => rfl
  | r :: G, h => by
    have ih := col_sh f k G fun r m => h r (List.mem_cons_of_mem _ m)
    unfold colL gD at ih ⊢
    rw [List.map_cons, List.map_cons, List.map_cons, List.filterMap_cons, List.filterMap_cons, ck_sh f k r (h r List.mem_cons_self), ih]
    cases ckF k (.tup r) <;> rfl
theorem laid_sh (f : Nat) (G : List (List D)) (h : ∀ r ∈ G, ∀ d ∈ r, okC d) : ∀ k, laidL (G.map fun r => r.map (sh f)) k = (laidL G k).map (sh f)
  | 0 => rfl
  | k + 1 => by rw [laidL, laidL, List.map_append, laid_sh f G h k, col_sh f k G h]
theorem range_sh (f m : Nat) : (rangeL 0 m).map (sh f) = rangeL f m := by
  rw [rangeL_map]
  rfl
theorem laid_GS (f m size : Nat) (hs : 1 ≤ size) : laidL (GS f ((m + size - 1) / size) size m) (wide (GS f ((m + size - 1) / size) size m)) = rangeL f m := by
  have hw : wide (GS f ((m + size - 1) / size) size m) = wide (PG ((m + size - 1) / size) size m) := by
    rw [GS_PG]
    cases PG ((m + size - 1) / size) size m with
    | nil => rfl
    | cons r R => simp [wide]
  rw [hw, GS_PG, laid_sh f _ (fun r h => (PG_row h).2), laid_all m size hs, range_sh]
/-! ### the stacks -/
structure Stk where
  many : Nat
  size : Nat
  high : Nat
def Stk.sh (s : Stk) : Nat := (s.many + s.size - 1) / s.size
def Stk.K (s : Stk) : Nat := (s.sh + s.high - 1) / s.high
def Stk.n (s : Stk) (j : Nat) : Nat := min (j * s.high + s.high) s.sh - j * s.high
def Stk.b (s : Stk) (j : Nat) : Nat := j * s.high * s.size
def Stk.m (s : Stk) (j : Nat) : Nat := min s.many (s.b j + s.n j * s.size) - s.b j
def Stk.it (s : Stk) (j : Nat) : D := .tup [.int (j * s.high : Nat), .int (((min (j * s.high + s.high) s.sh : Nat) : Int) - 1)]
def Stk.its (s : Stk) : List D := (List.range s.K).map s.it
def Stk.G (s : Stk) (j : Nat) : List D := sheetsD (s.b j) (s.n j) s.size (s.m j)
def Stk.all (s : Stk) (k : Nat) : List D := (List.range k).flatMap s.G
structure Stk.Ok (s : Stk) : Prop where
  many : s.many ≤ 60
  s1 : 1 ≤ s.size
  s2 : s.size ≤ 100
  h1 : 1 ≤ s.high
  h2 : s.high ≤ 60
/-- the sheets are as many as the labels need -/
theorem Stk.sh_spec {s : Stk} (o : s.Ok) : s.many ≤ s.sh * s.size ∧ (∀ t, t < s.sh → t * s.size < s.many) := by
  have h1 := o.s1
  have h2 := Nat.div_add_mod (s.many + s.size - 1) s.size
  have h3 := Nat.mod_lt (s.many + s.size - 1) (show 0 < s.size by omega)
  rw [show s.size * ((s.many + s.size - 1) / s.size) = s.sh * s.size from Nat.mul_comm _ _] at h2
  refine ⟨by omega, fun t ht => ?_⟩
  have h4 : (t + 1) * s.size ≤ s.sh * s.size := Nat.mul_le_mul_right _ ht
  rw [Nat.add_mul, Nat.one_mul] at h4
  omega
theorem Stk.sh_le {s : Stk} (o : s.Ok) : s.sh ≤ 60 := by
  have h1 := o.many; have h2 := o.s1
  by_cases c : s.sh ≤ 60
  · exact c
  · have := (Stk.sh_spec o).2 60 (by omega)
    omega
theorem Stk.K_spec {s : Stk} (o : s.Ok) : s.sh ≤ s.K * s.high ∧ (∀ j, j < s.K → j * s.high < s.sh) := by
  have h1 := o.h1
  have h2 := Nat.div_add_mod (s.sh + s.high - 1) s.high
  have h3 := Nat.mod_lt (s.sh + s.high - 1) (show 0 < s.high by omega)
  rw [show s.high * ((s.sh + s.high - 1) / s.high) = s.K * s.high from Nat.mul_comm _ _] at h2
  refine ⟨by omega, fun t ht => ?_⟩
  have h4 : (t + 1) * s.high ≤ s.K * s.high := Nat.mul_le_mul_right _ ht
  rw [Nat.add_mul, Nat.one_mul] at h4
  omega
theorem Stk.K_le {s : Stk} (o : s.Ok) : s.K ≤ 60 := by
  have h := (Stk.K_spec o).2
  have h0 := Stk.sh_le o
  by_cases c : s.K = 0
  · omega
  · have := h (s.K - 1) (by omega)
    have h1 : s.K - 1 ≤ (s.K - 1) * s.high := Nat.le_mul_of_pos_right _ o.h1
    omega
/-- each stack's sheets are as many as its labels need -/
theorem Stk.n_eq {s : Stk} (o : s.Ok) {j : Nat} (hj : j < s.K) : 1 ≤ s.n j ∧ s.b j ≤ s.many ∧ s.n j = (s.m j + s.size - 1) / s.size ∧ min s.many (s.b j + s.n j * s.size) = s.b j + s.m j := by
  have h1 := (Stk.K_spec o).2 j hj
  obtain ⟨h2, h3⟩ := Stk.sh_spec o
  have hb := h3 _ h1
  have hs := o.s1
  have hh := o.h1
  have n1 : 1 ≤ s.n j := by unfold Stk.n; omega
  have hb' : s.b j ≤ s.many := Nat.le_of_lt hb
  refine ⟨n1, hb', ?_, by unfold Stk.m; omega⟩
  have n2 : j * s.high + s.n j ≤ s.sh := by unfold Stk.n; omega
  have e1 : s.b j + s.n j * s.size = (j * s.high + s.n j) * s.size := by unfold Stk.b; rw [Nat.add_mul]
  symm
  rw [Nat.div_eq_iff (by omega)]
  have e2 : (s.n j - 1) * s.size + s.size = s.n j * s.size := by rw [← Nat.succ_mul]; congr 1; omega
  have key : (s.n j - 1) * s.size < s.m j := by
    have h5 := h3 (j * s.high + s.n j - 1) (by omega)
    have e3 : (j * s.high + s.n j - 1) * s.size = s.b j + (s.n j - 1) * s.size := by
      unfold Stk.b; rw [← Nat.add_mul]; congr 1; omega
    unfold Stk.m
    omega
  have le : s.m j ≤ s.n j * s.size := by unfold Stk.m; omega
  generalize (s.n j - 1) * s.size = p at *
  rw [Nat.mul_comm (s.n j) s.size] at *
  generalize s.size * s.n j = q at *
  omega
theorem Stk.all_len {s : Stk} (o : s.Ok) : ∀ k, k ≤ s.K → (s.all k).length = min (k * s.high) s.sh
  | 0, _ => by simp [Stk.all]
  | k + 1, h => by
    have ih := Stk.all_len o k (by omega)
    have h1 := (Stk.K_spec o).2 k (by omega)
    have e : s.all (k + 1) = s.all k ++ s.G k := by unfold Stk.all; rw [List.range_succ]; simp
    have e2 : (s.G k).length = s.n k := by simp [Stk.G, sheetsD]
    rw [e, List.length_append, ih, e2, Nat.add_mul, Nat.one_mul]
    unfold Stk.n
    omega
theorem Stk.all_sh {s : Stk} (o : s.Ok) : (s.all s.K).length = s.sh := by
  rw [Stk.all_len o _ (Nat.le_refl _)]
  have := (Stk.K_spec o).1
  omega
/-- each stack found again among all sheets -/
theorem Stk.cut {s : Stk} (o : s.Ok) {j : Nat} (hj : j < s.K) : ((s.all s.K).drop (j * s.high)).take (s.n j) = s.G j := by
  have h1 := (Stk.K_spec o).2 j hj
  have e : ∃ t, s.all s.K = s.all j ++ s.G j ++ t := by
    unfold Stk.all
    obtain ⟨q, hq⟩ : ∃ q, s.K = (j + 1) + q := ⟨s.K - j - 1, by omega⟩
    refine ⟨((List.range q).map (fun x => j + 1 + x)).flatMap s.G, ?_⟩
    rw [hq, List.range_add, List.flatMap_append, List.range_succ, List.flatMap_append]
    simp
  obtain ⟨t, e⟩ := e
  have l1 : (s.all j).length = j * s.high := by rw [Stk.all_len o j (by omega)]; omega
  have l2 : (s.G j).length = s.n j := by simp [Stk.G, sheetsD]
  rw [e, List.append_assoc, ← l1, List.drop_left, ← l2, List.take_left]
theorem Stk.pur (s : Stk) (k : Nat) : purs (s.all k) = true := purs_of fun d m => by
  unfold Stk.all at m
  obtain ⟨j, _, h⟩ := List.mem_flatMap.mp m
  have := sheets_pur (s.b j) (s.n j) s.size (s.m j)
  rw [purs_all, List.all_eq_true] at this
  exact this d h
theorem Stk.its_pur (s : Stk) : purs s.its = true := purs_of fun d m => by
  obtain ⟨j, _, rfl⟩ := List.mem_map.mp m; rfl
theorem small_ok : ∀ s : Nat, s < 61 → ∀ c : Nat, c < 61 → 1 ≤ c → Builtin.Range.small 0 (s : Int) (c : Int) = true := by decide +kernel
theorem int1_div (m b : Nat) (h : 1 ≤ b) : Int.fdiv (((m : Int) + (b : Int)) - 1) (b : Int) = (((m + b - 1) / b : Nat) : Int) := by
  rw [show ((m : Int) + (b : Int)) - 1 = ((m + b - 1 : Nat) : Int) by omega, Int.fdiv_eq_ediv_of_nonneg _ (by omega)]; simp
theorem stacks_ev (s : Stk) (o : s.Ok) (a d : Nat) (e : s.size = a * d) (ha : a ≤ 1000) : F_stacks [.int s.many, .int a, .int d, .int s.high] = .val (.tup s.its) := by
  have h1 := o.h1; have h2 := o.h2; have h3 := Stk.sh_le o; have h4 := o.s1; have h5 := o.s2
  have q1 := slots_ev a d ha
  have q2 := up_ev s.many s.size h4 (by omega)
  rw [← e] at q1
  have c1 : ∀ (env : En), env[0]? = some (some (.int s.many)) → env[1]? = some (some (.int a)) → env[2]? = some (some (.int d)) → ∀ h, fCall F_rounded_up (fCons (fVar 0) (fCons (fCall F_slots (fCons (fVar 1) (fCons (fVar 2) fNil))) fNil)) env h = .ok (.int s.sh) h := fun env e0 e1 e2 h =>
    call_val (ds := [.int s.many, .int s.size]) (by
      have c0 : fCall F_slots (fCons (fVar 1) (fCons (fVar 2) fNil)) env h = .ok (.int s.size) h := call_val (ds := [.int a, .int d]) (by simp only [fCons, fVar, fNil, e1, e2, bnd_ok]) (dall_nor _ _ rfl) q1
      simp only [fCons, fVar, fNil, e0, bnd_ok, c0]) (dall_nor _ _ rfl) q2
  have rs : Builtin.Range.rangeSize 0 (s.sh : Int) (s.high : Int) = (s.K : Int) := by
    rw [PyProof.Rows.rangeSize_pos (by omega) (by omega), show ((s.sh : Int) + (s.high : Int) - 1) = ((s.sh + s.high - 1 : Nat) : Int) by omega]
    unfold Stk.K
    simp
  have hc : fVal (fLc fi_stacks_1 (gN 5) fYes fe_stacks_1 [5]) [some (.int s.many), some (.int a), some (.int d), some (.int s.high), some (.int s.sh), none] [] = .ok (.lst s.its) [] := by
    have e := val_lm (fi := fi_stacks_1) (fg := gN 5) (fe := fe_stacks_1) (vs := [5]) (env := [some (.int s.many), some (.int a), some (.int d), some (.int s.high), some (.int s.sh), none]) (h0 := []) (l := stepL 0 s.high s.K) (gd := [])
      (fun d => match d with | .int k => .tup [.int k, .int ((if (s.sh : Int) < k + s.high then (s.sh : Int) else k + s.high) - 1)] | _ => .non) rfl (by
        have hne : (s.high : Int) ≠ 0 := by omega
        have hna : ((s.high : Int)).natAbs < 1073741824 := by omega
        have hsm := small_ok s.sh (by omega) s.high (by omega) h1
        unfold fi_stacks_1 fRng3
        simp (decide := true) only [fVar, fC, fOp2, fUn, fNil, fCons, fTup, fLst, fTest, fAnd, fOr, fNot, fAndV, fOrV, fNotV, fIf, fCB, fNo, fSo, fSl, fTmp, fTmpB, fBM, fM1, fAsg, fDrop, fRet, fRetN, fIfS, fPar, fPar3, fAug, fAugL, fNext, fBreak, fCont, gN, gT, gConsF, gNilF, gS, fYes, fTru, fNewB, fIter, fRng1, fRng2, bnd_ok, tmpR, tmpB, lof, own, seqOf, srcOf, addD, subD, fdivD, modD, powD, mulD, negD, ltD, leD, gtD, geD, ixD, slD, lenD, absD, PF.intD, max2D, min2D, listD, tupleD, zipD, iaddD, appendD, extendD, popD, joinD, truD, tyD, isND, notND, D.isNon, List.getElem?_cons_zero, List.getElem?_cons_succ, List.set_cons_zero, List.set_cons_succ, List.length_cons, List.length_nil, List.cons_append, List.nil_append, List.append_nil, List.take_succ_cons, List.take_zero, List.take_nil, List.all_cons, List.all_nil, Bool.and_true, Bool.true_and, Bool.and_self, if_true, if_false, Bool.false_eq_true, Nat.reduceAdd, Nat.zero_add, Nat.reduceLeDiff, Nat.reduceLT, ite_true, ite_false, reduceIte, List.map_cons, List.map_nil, List.replicate, List.length_append, List.getElem?_nil, Option.isSome_some, beq_self_eq_true, hne, hna, hsm, rs, ne_eq, not_false_iff, and_self, Int.natCast_nonneg, Int.toNat_natCast]) (fun p m => by cases m) (by have := Stk.K_le o; simp [stepL]; omega) (fun x hm h _ => by
        unfold stepL at hm
        obtain ⟨k, hk, rfl⟩ := List.mem_map.mp hm
        refine ⟨[some (.int s.many), some (.int a), some (.int d), some (.int s.high), some (.int s.sh), some (.int (0 + (k : Int) * s.high))], rfl, ?_, ?_⟩
        · unfold fe_stacks_1
          simp (decide := true) only [fVar, fC, fOp2, fUn, fNil, fCons, fTup, fLst, fTest, fAnd, fOr, fNot, fAndV, fOrV, fNotV, fIf, fCB, fNo, fSo, fSl, fTmp, fTmpB, fBM, fM1, fAsg, fDrop, fRet, fRetN, fIfS, fPar, fPar3, fAug, fAugL, fNext, fBreak, fCont, gN, gT, gConsF, gNilF, gS, fYes, fTru, fNewB, fIter, fRng1, fRng2, bnd_ok, tmpR, tmpB, lof, own, seqOf, srcOf, addD, subD, fdivD, modD, powD, mulD, negD, ltD, leD, gtD, geD, ixD, slD, lenD, absD, PF.intD, max2D, min2D, listD, tupleD, zipD, iaddD, appendD, extendD, popD, joinD, truD, tyD, isND, notND, D.isNon, List.getElem?_cons_zero, List.getElem?_cons_succ, List.set_cons_zero, List.set_cons_succ, List.length_cons, List.length_nil, List.cons_append, List.nil_append, List.append_nil, List.take_succ_cons, List.take_zero, List.take_nil, List.all_cons, List.all_nil, Bool.and_true, Bool.true_and, Bool.and_self, if_true, if_false, Bool.false_eq_true, Nat.reduceAdd, Nat.zero_add, Nat.reduceLeDiff, Nat.reduceLT, ite_true, ite_false, reduceIte, List.map_cons, List.map_nil, List.replicate, List.length_append, List.getElem?_nil, Option.isSome_some, beq_self_eq_true]
        · rfl)
    rw [e]
    congr 2
    unfold stepL Stk.its
    rw [List.map_map]
    apply List.map_congr_left
    intro k hk
    have hk' := (Stk.K_spec o).2 k (List.mem_range.mp hk)
    show D.tup [.int (0 + (k : Int) * s.high), _] = s.it k
    unfold Stk.it
    have e1 : (0 + (k : Int) * (s.high : Int)) = ((k * s.high : Nat) : Int) := by simp
    rw [e1]
    congr 3
    congr 2
    split <;> omega
  have hp : purs s.its = true := s.its_pur
  unfold F_stacks runP fs_stacks
  simp (decide := true) only [fSeq, fAsg, fTmp, List.map_cons, List.map_nil, List.replicate, List.length_cons, List.length_nil, Nat.reduceAdd, Nat.zero_add, Nat.reduceSub, List.cons_append, List.nil_append, c1 [some (.int s.many), some (.int a), some (.int d), some (.int s.high), none, none] rfl rfl rfl, bnd_ok, tmpR_id (show (D.int (s.sh : Int)).pur = true from rfl), gN, List.set_cons_succ, List.set_cons_zero, fRet, fCB, fCons, fNil, hc, tupleD, lof_lst, toP, pur_tup, hp, if_true, noE]
theorem stk_body (s : Stk) (o : s.Ok) (a d : Nat) (j : Nat) (hj : j < s.K) (o8 o9 : Option D) :
    fb_stacked_order_1 [some (.int s.many), some (.int a), some (.int d), some (.int s.high), some (.int s.size), some (.ref 0), some (.int (j * s.high : Nat)), some (.int (((min (j * s.high + s.high) s.sh : Nat) : Int) - 1)), o8, o9] [.lst (s.all j)]
      = .ok (.nx [some (.int s.many), some (.int a), some (.int d), some (.int s.high), some (.int s.size), some (.ref 0), some (.int (j * s.high : Nat)), some (.int (((min (j * s.high + s.high) s.sh : Nat) : Int) - 1)), some (.int (s.b j)), some (.int (s.n j))]) [.lst (s.all (j + 1))] := by
  obtain ⟨n1, n2, n3, n4⟩ := Stk.n_eq o hj
  have h3 := Stk.sh_le o
  have hn : s.n j ≤ 60 := by unfold Stk.n; omega
  have h5 := o.s2; have h6 := o.many
  have e1 : ((j * s.high : Nat) : Int) * (s.size : Int) = (s.b j : Int) := by unfold Stk.b; simp
  have e2 : ((((min (j * s.high + s.high) s.sh : Nat) : Int) - 1) - ((j * s.high : Nat) : Int)) + 1 = (s.n j : Int) := by
    have := (Stk.K_spec o).2 j hj
    unfold Stk.n; omega
  have e3 : (if (s.b j : Int) + (s.n j : Int) * (s.size : Int) < (s.many : Int) then (s.b j : Int) + (s.n j : Int) * (s.size : Int) else (s.many : Int)) = ((s.b j + s.m j : Nat) : Int) := by
    rw [← n4]
    have : (s.n j : Int) * (s.size : Int) = ((s.n j * s.size : Nat) : Int) := by simp
    rw [this]
    split <;> omega
  have hsz : ((s.size : Int)).natAbs < 18446744073709551616 := by omega
  have hpr := printed_ev (s.b j) (s.n j) s.size (s.m j) (by omega) (by omega)
  have hw := wf_one (s.pur j)
  have hq : ∀ env : En, env[0]? = some (some (.int s.many)) → env[4]? = some (some (.int s.size)) → env[8]? = some (some (.int (s.b j))) → env[9]? = some (some (.int (s.n j))) → fVal (fCall F_printed_on (fCons (fVar 9) (fCons (fVar 4) (fCons (fVar 8) (fCons (fCB min2D (fCons (fVar 0) (fCons (fOp2 addD (fVar 8) (fOp2 mulD (fVar 9) (fVar 4))) fNil))) fNil))))) env [.lst (s.all j)] = .ok (.lst (s.G j)) [.lst (s.all j)] := fun env v0 v4 v8 v9 => by
    have c := call_obj (F := F_printed_on) (fa := fCons (fVar 9) (fCons (fVar 4) (fCons (fVar 8) (fCons (fCB min2D (fCons (fVar 0) (fCons (fOp2 addD (fVar 8) (fOp2 mulD (fVar 9) (fVar 4))) fNil))) fNil)))) (env := env) (h := [.lst (s.all j)]) (h' := [.lst (s.all j)]) (ds := [.int (s.n j), .int s.size, .int (s.b j), .int (s.b j + s.m j : Nat)]) (by
      simp (decide := true) only [fCons, fVar, v0, v4, v8, v9, bnd_ok, fCB, fOp2, mulD, hsz, or_true, if_true, addD, fNil, min2D, e3]) (dall_nor _ _ rfl) hpr
    unfold fVal
    rw [c]
    exact val_n hw (nors_of_purs _ (sheets_pur _ _ _ _))
  have hl : (s.all j).length + (s.G j).length ≤ 16777216 := by
    have h7 := Stk.all_len o j (by omega)
    have : (s.G j).length = s.n j := by simp [Stk.G, sheetsD]
    omega
  have e4 : s.all (j + 1) = s.all j ++ s.G j := by unfold Stk.all; rw [List.range_succ]; simp
  unfold fb_stacked_order_1
  refine (seqE (e := [some (.int s.many), some (.int a), some (.int d), some (.int s.high), some (.int s.size), some (.ref 0), some (.int (j * s.high : Nat)), some (.int (((min (j * s.high + s.high) s.sh : Nat) : Int) - 1)), some (.int (s.b j)), some (.int (s.n j))]) (h1 := [.lst (s.all j)]) ?_).trans ?_
  · simp (decide := true) only [fPar, fCons, fOp2, fVar, List.getElem?_cons_succ, List.getElem?_cons_zero, bnd_ok, mulD, hsz, or_true, if_true, e1, subD, fC, addD, e2, fNil, List.set_cons_succ, List.set_cons_zero]
  · simp (decide := true) only [fDrop, fBM, fVar, List.getElem?_cons_succ, List.getElem?_cons_zero, bnd_ok, tyD, lof, fCons, fNil, beq_self_eq_true, Option.isSome_some, Bool.and_self, if_true, hq [some (.int s.many), some (.int a), some (.int d), some (.int s.high), some (.int s.size), some (.ref 0), some (.int (j * s.high : Nat)), some (.int (((min (j * s.high + s.high) s.sh : Nat) : Int) - 1)), some (.int (s.b j)), some (.int (s.n j))] rfl rfl rfl rfl, extendD, own, hl, List.set_cons_zero, e4]
theorem stacked_ev (s : Stk) (o : s.Ok) (a d : Nat) (e : s.size = a * d) (ha : a ≤ 1000) : F_stacked_order [.int s.many, .int a, .int d, .int s.high] = .val (.tup (s.all s.K)) := by
  have q1 := slots_ev a d ha
  rw [← e] at q1
  have q2 := stacks_ev s o a d e ha
  obtain ⟨e', h', z1, o6, o7, o8, o9, done, rfl, rfl, z2⟩ := for_rel (fg := gT 2 (gConsF (gN 6) (gConsF (gN 7) gNilF))) (fb := fb_stacked_order_1) (s := ⟨s.its, []⟩) (fun l e h => ∃ o6 o7 o8 o9 done, e = [some (.int s.many), some (.int a), some (.int d), some (.int s.high), some (.int s.size), some (.ref 0), o6, o7, o8, o9] ∧ h = [.lst (s.all done)] ∧ s.its = (List.range done).map s.it ++ l) (fun l e h i => good_nil _ _)
    (fun x r e h i => by
      obtain ⟨o6, o7, o8, o9, done, rfl, rfl, hd⟩ := i
      have hk : done < s.K := by
        have := congrArg List.length hd
        simp [Stk.its] at this
        omega
      have hx : x = s.it done := by
        have h1 : s.its[done]? = some x := by rw [hd, List.getElem?_append_right (by simp)]; simp
        unfold Stk.its at h1
        rw [List.getElem?_map, List.getElem?_range hk] at h1
        exact (Option.some.inj h1).symm
      subst hx
      refine ⟨_, _, rfl, _, _, .inl (stk_body s o a d done hk o8 o9), _, _, _, _, done + 1, rfl, rfl, ?_⟩
      rw [List.range_succ, List.map_append, hd]; simp)
    s.its [some (.int s.many), some (.int a), some (.int d), some (.int s.high), some (.int s.size), some (.ref 0), none, none, none, none] [.lst []] ⟨none, none, none, none, 0, rfl, rfl, rfl⟩
  have hd : done = s.K := by
    have := congrArg List.length z2
    simp [Stk.its] at this
    exact this.symm
  subst hd
  have w1 : fFor fi_stacked_order_1 (gT 2 (gConsF (gN 6) (gConsF (gN 7) gNilF))) fb_stacked_order_1 [some (.int s.many), some (.int a), some (.int d), some (.int s.high), some (.int s.size), some (.ref 0), none, none, none, none] [.lst []] = .ok (.nx [some (.int s.many), some (.int a), some (.int d), some (.int s.high), some (.int s.size), some (.ref 0), o6, o7, o8, o9]) [.lst (s.all s.K)] := by
    refine forE (s := ⟨s.its, []⟩) ?_ z1
    have c : fCall F_stacks (fCons (fVar 0) (fCons (fVar 1) (fCons (fVar 2) (fCons (fVar 3) fNil)))) [some (.int s.many), some (.int a), some (.int d), some (.int s.high), some (.int s.size), some (.ref 0), none, none, none, none] [.lst []] = .ok (.tup s.its) [.lst []] := call_val (ds := [.int s.many, .int a, .int d, .int s.high]) rfl (dall_nor _ _ rfl) q2
    unfold fi_stacked_order_1 fIter
    rw [c]; rfl
  have c0 : ∀ h, fCall F_slots (fCons (fVar 1) (fCons (fVar 2) fNil)) [some (.int s.many), some (.int a), some (.int d), some (.int s.high), none, none, none, none, none, none] h = .ok (.int s.size) h := fun h => call_val (ds := [.int a, .int d]) rfl (dall_nor _ _ rfl) q1
  have hp := s.pur s.K
  unfold F_stacked_order runP fs_stacked_order
  simp (decide := true) only [fSeq, fPar, List.map_cons, List.map_nil, List.replicate, List.length_cons, List.length_nil, Nat.reduceAdd, Nat.zero_add, Nat.reduceSub, List.cons_append, List.nil_append, fCons, c0, bnd_ok, fLst, fNil, if_true, List.set_cons_succ, List.set_cons_zero, w1, fRet, fCB, fVar, List.getElem?_cons_succ, List.getElem?_cons_zero, tupleD, lof, toP, pur_tup, hp, noE]
/-! ### the offers -/
theorem ceil_zero (b z : Nat) (h : 1 ≤ z) (h0 : b = 0) : (b + z - 1) / z = 0 := by
  subst h0; rw [Nat.zero_add]; exact Nat.div_eq_of_lt (by omega)
theorem isint_ev (i : Int) : F_is_integer [.int i] = .val (.bl true) := by
  unfold F_is_integer runP fs_is_integer
  simp (decide := true) only [fVar, fC, fOp2, fUn, fNil, fCons, fTup, fLst, fTest, fAnd, fOr, fNot, fAndV, fOrV, fNotV, fIf, fCB, fNo, fSo, fSl, fTmp, fTmpB, fBM, fM1, fAsg, fDrop, fRet, fRetN, fIfS, fPar, fPar3, fAug, fAugL, fNext, fBreak, fCont, gN, gT, gConsF, gNilF, gS, fYes, fTru, fNewB, fIter, fRng1, fRng2, bnd_ok, tmpR, tmpB, lof, own, seqOf, srcOf, addD, subD, fdivD, modD, powD, mulD, negD, ltD, leD, gtD, geD, ixD, slD, lenD, absD, PF.intD, max2D, min2D, listD, tupleD, zipD, iaddD, appendD, extendD, popD, joinD, truD, tyD, isND, notND, D.isNon, List.getElem?_cons_zero, List.getElem?_cons_succ, List.set_cons_zero, List.set_cons_succ, List.length_cons, List.length_nil, List.cons_append, List.nil_append, List.append_nil, List.take_succ_cons, List.take_zero, List.take_nil, List.all_cons, List.all_nil, Bool.and_true, Bool.true_and, Bool.and_self, if_true, if_false, Bool.false_eq_true, Nat.reduceAdd, Nat.zero_add, Nat.reduceLeDiff, Nat.reduceLT, ite_true, ite_false, reduceIte, List.map_cons, List.map_nil, List.replicate, List.length_append, List.getElem?_nil, Option.isSome_some, beq_self_eq_true, fIsi, toP, D.pur, noE]
  rfl
theorem within_ev (i m : Nat) (h : i ≤ m) : F_is_within [.int i, .int 0, .int m] = .val (.bl true) := by
  have c : ∀ h, fCall F_is_integer (fCons (fVar 0) fNil) [some (.int i), some (.int 0), some (.int m)] h = .ok (.bl true) h := fun h => call_val (ds := [.int i]) rfl (dall_nor _ _ rfl) (isint_ev i)
  have e1 : decide ((0 : Int) ≤ (i : Int)) = true := decide_eq_true (by omega)
  have e2 : decide ((i : Int) ≤ (m : Int)) = true := decide_eq_true (by omega)
  unfold F_is_within runP fs_is_within
  simp (decide := true) only [fVar, fC, fOp2, fUn, fNil, fCons, fTup, fLst, fTest, fAnd, fOr, fNot, fAndV, fOrV, fNotV, fIf, fCB, fNo, fSo, fSl, fTmp, fTmpB, fBM, fM1, fAsg, fDrop, fRet, fRetN, fIfS, fPar, fPar3, fAug, fAugL, fNext, fBreak, fCont, gN, gT, gConsF, gNilF, gS, fYes, fTru, fNewB, fIter, fRng1, fRng2, bnd_ok, tmpR, tmpB, lof, own, seqOf, srcOf, addD, subD, fdivD, modD, powD, mulD, negD, ltD, leD, gtD, geD, ixD, slD, lenD, absD, PF.intD, max2D, min2D, listD, tupleD, zipD, iaddD, appendD, extendD, popD, joinD, truD, tyD, isND, notND, D.isNon, List.getElem?_cons_zero, List.getElem?_cons_succ, List.set_cons_zero, List.set_cons_succ, List.length_cons, List.length_nil, List.cons_append, List.nil_append, List.append_nil, List.take_succ_cons, List.take_zero, List.take_nil, List.all_cons, List.all_nil, Bool.and_true, Bool.true_and, Bool.and_self, if_true, if_false, Bool.false_eq_true, Nat.reduceAdd, Nat.zero_add, Nat.reduceLeDiff, Nat.reduceLT, ite_true, ite_false, reduceIte, List.map_cons, List.map_nil, List.replicate, List.length_append, List.getElem?_nil, Option.isSome_some, beq_self_eq_true, Nat.reduceSub, c, fChain, e1, e2, toP, D.pur, noE]
theorem need_ev (w t : Nat) (hw : w ≤ 1000) (h : 1 ≤ w * t) : F_need_slot [.int w, .int t, .int 0] = .val .non := by
  have c1 : ∀ h, fCall F_slots (fCons (fVar 0) (fCons (fVar 1) fNil)) [some (.int w), some (.int t), some (.int 0)] h = .ok (.int (w * t : Nat)) h := fun h => call_val (ds := [.int w, .int t]) rfl (dall_nor _ _ rfl) (slots_ev w t hw)
  have e : (((w * t : Nat) : Int)) - 1 = ((w * t - 1 : Nat) : Int) := by omega
  have c2 : ∀ h, fCall F_is_within (fCons (fVar 2) (fCons (fC (.int 0)) (fCons (fOp2 subD (fCall F_slots (fCons (fVar 0) (fCons (fVar 1) fNil))) (fC (.int 1))) fNil))) [some (.int w), some (.int t), some (.int 0)] h = .ok (.bl true) h := fun h => call_val (ds := [.int 0, .int 0, .int (w * t - 1 : Nat)]) (by
    simp only [fCons, fVar, List.getElem?_cons_succ, List.getElem?_cons_zero, bnd_ok, fC, fOp2, c1, subD, e, fNil]) (dall_nor _ _ rfl) (within_ev 0 (w * t - 1) (by omega))
  unfold F_need_slot runP fs_need_slot
  simp (decide := true) only [fIfS, fTmpB, fNot, fTru, c2, bnd_ok, truD, Bool.not_true, PF.tmpB_id, Bool.false_eq_true, if_false, fNext, List.map_cons, List.map_nil, List.replicate, List.length_cons, List.length_nil, Nat.reduceAdd, Nat.reduceSub, Nat.zero_add, List.append_nil, List.cons_append, List.nil_append, if_true, noE]
theorem needed_ev (b w t : Nat) (hw : w ≤ 1000) (hz : 1 ≤ w * t) (h2 : w * t ≤ 1000) : F_sheets_needed [.int b, .int w, .int t, .int 0] = .val (.int ((b + w * t - 1) / (w * t) : Nat)) := by
  have c1 : ∀ h, fCall F_need_slot (fCons (fVar 1) (fCons (fVar 2) (fCons (fVar 3) fNil))) [some (.int b), some (.int w), some (.int t), some (.int 0)] h = .ok .non h := fun h => call_val (ds := [.int w, .int t, .int 0]) rfl (dall_nor _ _ rfl) (need_ev w t hw (by omega))
  have c2 : ∀ h, fCall F_slots (fCons (fVar 1) (fCons (fVar 2) fNil)) [some (.int b), some (.int w), some (.int t), some (.int 0)] h = .ok (.int (w * t : Nat)) h := fun h => call_val (ds := [.int w, .int t]) rfl (dall_nor _ _ rfl) (slots_ev w t hw)
  have c3 : ∀ h, fCall F_rounded_up (fCons (fOp2 addD (fVar 3) (fVar 0)) (fCons (fCall F_slots (fCons (fVar 1) (fCons (fVar 2) fNil))) fNil)) [some (.int b), some (.int w), some (.int t), some (.int 0)] h = .ok (.int ((b + w * t - 1) / (w * t) : Nat)) h := fun h => call_val (ds := [.int b, .int (w * t : Nat)]) (by
    simp only [fCons, fVar, List.getElem?_cons_succ, List.getElem?_cons_zero, bnd_ok, fOp2, c2, addD, Int.zero_add, fNil]) (dall_nor _ _ rfl) (up_ev b (w * t) hz h2)
  unfold F_sheets_needed runP fs_sheets_needed
  by_cases hb : b = 0
  · have e0 := ceil_zero b (w * t) hz hb
    have hg : decide ((b : Int) > 0) = false := decide_eq_false (by omega)
    simp (decide := true) only [fVar, fC, fOp2, fUn, fNil, fCons, fTup, fLst, fTest, fAnd, fOr, fNot, fAndV, fOrV, fNotV, fIf, fCB, fNo, fSo, fSl, fTmp, fTmpB, fBM, fM1, fAsg, fDrop, fRet, fRetN, fIfS, fPar, fPar3, fAug, fAugL, fNext, fBreak, fCont, gN, gT, gConsF, gNilF, gS, fYes, fTru, fNewB, fIter, fRng1, fRng2, bnd_ok, tmpR, tmpB, lof, own, seqOf, srcOf, addD, subD, fdivD, modD, powD, mulD, negD, ltD, leD, gtD, geD, ixD, slD, lenD, absD, PF.intD, max2D, min2D, listD, tupleD, zipD, iaddD, appendD, extendD, popD, joinD, truD, tyD, isND, notND, D.isNon, List.getElem?_cons_zero, List.getElem?_cons_succ, List.set_cons_zero, List.set_cons_succ, List.length_cons, List.length_nil, List.cons_append, List.nil_append, List.append_nil, List.take_succ_cons, List.take_zero, List.take_nil, List.all_cons, List.all_nil, Bool.and_true, Bool.true_and, Bool.and_self, if_true, if_false, Bool.false_eq_true, Nat.reduceAdd, Nat.zero_add, Nat.reduceLeDiff, Nat.reduceLT, ite_true, ite_false, reduceIte, List.map_cons, List.map_nil, List.replicate, List.length_append, List.getElem?_nil, Option.isSome_some, beq_self_eq_true, Nat.reduceSub, fSeq, c1, fIf, hg, e0, toP, D.pur, noE]
    rfl
  · have hg : decide ((b : Int) > 0) = true := decide_eq_true (by omega)
    simp (decide := true) only [fVar, fC, fOp2, fUn, fNil, fCons, fTup, fLst, fTest, fAnd, fOr, fNot, fAndV, fOrV, fNotV, fIf, fCB, fNo, fSo, fSl, fTmp, fTmpB, fBM, fM1, fAsg, fDrop, fRet, fRetN, fIfS, fPar, fPar3, fAug, fAugL, fNext, fBreak, fCont, gN, gT, gConsF, gNilF, gS, fYes, fTru, fNewB, fIter, fRng1, fRng2, bnd_ok, tmpR, tmpB, lof, own, seqOf, srcOf, addD, subD, fdivD, modD, powD, mulD, negD, ltD, leD, gtD, geD, ixD, slD, lenD, absD, PF.intD, max2D, min2D, listD, tupleD, zipD, iaddD, appendD, extendD, popD, joinD, truD, tyD, isND, notND, D.isNon, List.getElem?_cons_zero, List.getElem?_cons_succ, List.set_cons_zero, List.set_cons_succ, List.length_cons, List.length_nil, List.cons_append, List.nil_append, List.append_nil, List.take_succ_cons, List.take_zero, List.take_nil, List.all_cons, List.all_nil, Bool.and_true, Bool.true_and, Bool.and_self, if_true, if_false, Bool.false_eq_true, Nat.reduceAdd, Nat.zero_add, Nat.reduceLeDiff, Nat.reduceLT, ite_true, ite_false, reduceIte, List.map_cons, List.map_nil, List.replicate, List.length_append, List.getElem?_nil, Option.isSome_some, beq_self_eq_true, Nat.reduceSub, fSeq, c1, fIf, hg, c3, toP, D.pur, noE]
def upN (b z : Nat) : Nat := (b + z - 1) / z
def cntD (l : List Nat) : List D := l.map fun n => D.int (n : Nat)
def usedD (l : List Nat) (z : Nat) : List D := l.map fun n => D.int (upN n z : Nat)
theorem used_inz (l : List Nat) (z : Nat) : inz (usedD l z) = some (l.map fun n => ((upN n z : Nat) : Int)) := by
  induction l with
  | nil => rfl
  | cons a r ih =>
    unfold usedD at ih ⊢
    rw [List.map_cons, inz, ih]; rfl
def sumU (l : List Nat) (z : Nat) : Int := (l.map fun n => ((upN n z : Nat) : Int)).sum
theorem used_pur (l : List Nat) (z : Nat) : purs (usedD l z) = true := purs_of fun d m => by
  obtain ⟨n, _, rfl⟩ := List.mem_map.mp m; rfl
theorem cnt_pur (l : List Nat) : purs (cntD l) = true := purs_of fun d m => by
  obtain ⟨n, _, rfl⟩ := List.mem_map.mp m; rfl
structure Off where
  w : Nat
  t : Nat
  c : Nat
def Off.d (o : Off) : D := .tup [.int (o.w : Nat), .int (o.t : Nat), .int (o.c : Nat)]
structure Off.Ok (o : Off) : Prop where
  w1 : 1 ≤ o.w
  w2 : o.w ≤ 10
  t1 : 1 ≤ o.t
  t2 : o.t ≤ 10
  c2 : o.c ≤ 100
theorem Off.z1 {o : Off} (k : o.Ok) : 1 ≤ o.w * o.t := Nat.mul_le_mul k.w1 k.t1
theorem Off.z2 {o : Off} (k : o.Ok) : o.w * o.t ≤ 100 := Nat.mul_le_mul k.w2 k.t2
theorem Off.pur (o : Off) : o.d.pur = true := rfl
/-- a comprehension of needed sheets -/
theorem needed_lc {fi : FI} {e : En} {h : Hs} {v1 v2 v3 : Nat} (l : List Nat) (hl : l.length ≤ 1000) (o : Off) (k : o.Ok) (hw : WF h) (fi_ok : fi e h = .ok ⟨cntD l, []⟩ h) (hv : ∀ x : D, ∃ e', gN v1 x (wipeE e [v1]) h = .ok e' h ∧ e'[v1]? = some (some x) ∧ e'[v2]? = some (some (.int (o.w : Nat))) ∧ e'[v3]? = some (some (.int (o.t : Nat))) ∧ ∀ h', gN v1 x (wipeE e [v1]) h' = .ok e' h') :
    fVal (fLc fi (gN v1) fYes (fTmp (fCall F_sheets_needed (fCons (fVar v1) (fCons (fVar v2) (fCons (fVar v3) (fCons (fC (.int 0)) fNil)))))) [v1]) e h = .ok (.lst (usedD l (o.w * o.t))) h := by
  have q := val_lm (fi := fi) (fg := gN v1) (fe := fTmp (fCall F_sheets_needed (fCons (fVar v1) (fCons (fVar v2) (fCons (fVar v3) (fCons (fC (.int 0)) fNil)))))) (vs := [v1]) (env := e) (h0 := h) (l := cntD l) (gd := []) (fun d => match d with | .int i => .int (upN i.toNat (o.w * o.t) : Nat) | _ => .non) hw fi_ok (fun p m => by cases m) (by unfold cntD; rw [List.length_map]; omega) (fun d m h' _ => by
    obtain ⟨n, _, rfl⟩ := List.mem_map.mp m
    obtain ⟨e', _, g1, g2, g3, g4⟩ := hv (.int (n : Nat))
    refine ⟨e', g4 h', ?_, rfl⟩
    have c : fCall F_sheets_needed (fCons (fVar v1) (fCons (fVar v2) (fCons (fVar v3) (fCons (fC (.int 0)) fNil)))) e' h' = .ok (.int (upN n (o.w * o.t) : Nat)) h' := call_val (ds := [.int (n : Nat), .int (o.w : Nat), .int (o.t : Nat), .int 0]) (by simp only [fCons, fVar, g1, g2, g3, fC, fNil, bnd_ok]) (dall_nor _ _ rfl) (needed_ev n o.w o.t (by have := k.w2; omega) (Off.z1 k) (by have := Off.z2 k; omega))
    simp only [fTmp, c]
    exact tmpR_id rfl)
  rw [q]
  congr 2
  unfold cntD usedD
  rw [List.map_map]
  rfl
theorem cost_ev (l : List Nat) (hl : l.length ≤ 1000) (o : Off) (k : o.Ok) : F_cost_of [.tup (cntD l), o.d] = .val (.int ((o.c : Int) * sumU l (o.w * o.t))) := by
  have hc : fVal (fLc fi_cost_of_1 (gN 5) fYes fe_cost_of_1 [5]) [some (.tup (cntD l)), some o.d, some (.int (o.w : Nat)), some (.int (o.t : Nat)), some (.int (o.c : Nat)), none] [] = .ok (.lst (usedD l (o.w * o.t))) [] :=
    needed_lc l hl o k rfl (by unfold fi_cost_of_1; simp only [fVar, fC, fOp2, fUn, fNil, fCons, fTup, fLst, fTest, fAnd, fOr, fNot, fAndV, fOrV, fNotV, fIf, fCB, fNo, fSo, fSl, fTmp, fTmpB, fBM, fM1, fAsg, fDrop, fRet, fRetN, fIfS, fPar, fPar3, fAug, fAugL, fNext, fBreak, fCont, gN, gT, gConsF, gNilF, gS, fYes, fTru, fNewB, fIter, fRng1, fRng2, bnd_ok, tmpR, tmpB, lof, own, seqOf, srcOf, addD, subD, fdivD, modD, powD, mulD, negD, ltD, leD, gtD, geD, ixD, slD, lenD, absD, PF.intD, max2D, min2D, listD, tupleD, zipD, iaddD, appendD, extendD, popD, joinD, truD, tyD, isND, notND, D.isNon, List.getElem?_cons_zero, List.getElem?_cons_succ, List.set_cons_zero, List.set_cons_succ, List.length_cons, List.length_nil, List.cons_append, List.nil_append, List.append_nil, List.take_succ_cons, List.take_zero, List.take_nil, List.all_cons, List.all_nil, Bool.and_true, Bool.true_and, Bool.and_self, if_true, if_false, Bool.false_eq_true, Nat.reduceAdd, Nat.zero_add, Nat.reduceLeDiff, Nat.reduceLT, ite_true, ite_false, reduceIte, List.map_cons, List.map_nil, List.replicate, List.length_append, List.getElem?_nil, Option.isSome_some, beq_self_eq_true]) (fun x => ⟨_, rfl, rfl, rfl, rfl, fun _ => rfl⟩)
  have hs : ((o.c : Int)).natAbs < 18446744073709551616 := by have := k.c2; omega
  have hz := used_inz l (o.w * o.t)
  simp only [Off.d] at hc
  unfold F_cost_of runP fs_cost_of
  simp (decide := true) only [fVar, fC, fOp2, fUn, fNil, fCons, fTup, fLst, fTest, fAnd, fOr, fNot, fAndV, fOrV, fNotV, fIf, fCB, fNo, fSo, fSl, fTmp, fTmpB, fBM, fM1, fAsg, fDrop, fRet, fRetN, fIfS, fPar, fPar3, fAug, fAugL, fNext, fBreak, fCont, gN, gT, gConsF, gNilF, gS, fYes, fTru, fNewB, fIter, fRng1, fRng2, bnd_ok, tmpR, tmpB, lof, own, seqOf, srcOf, addD, subD, fdivD, modD, powD, mulD, negD, ltD, leD, gtD, geD, ixD, slD, lenD, absD, PF.intD, max2D, min2D, listD, tupleD, zipD, iaddD, appendD, extendD, popD, joinD, truD, tyD, isND, notND, D.isNon, List.getElem?_cons_zero, List.getElem?_cons_succ, List.set_cons_zero, List.set_cons_succ, List.length_cons, List.length_nil, List.cons_append, List.nil_append, List.append_nil, List.take_succ_cons, List.take_zero, List.take_nil, List.all_cons, List.all_nil, Bool.and_true, Bool.true_and, Bool.and_self, if_true, if_false, Bool.false_eq_true, Nat.reduceAdd, Nat.zero_add, Nat.reduceLeDiff, Nat.reduceLT, ite_true, ite_false, reduceIte, List.map_cons, List.map_nil, List.replicate, List.length_append, List.getElem?_nil, Option.isSome_some, beq_self_eq_true, fSeq, Off.d, hc, sumD, hz, hs, true_or, toP, D.pur, noE]
  rfl
def costL (l : List Nat) : Nat → List Off → List D
  | _, [] => []
  | k, o :: r => .tup [.int ((o.c : Int) * sumU l (o.w * o.t)), .int (k : Nat)] :: costL l (k + 1) r
theorem cost_form (l : List Nat) : ∀ (os : List Off) (k : Nat), ∀ d ∈ costL l k os, ∃ a b : Int, d = .tup [.int a, .int b]
  | [], _, d, m => by cases m
  | o :: r, k, d, m => by
    rcases List.mem_cons.mp m with z | z
    · exact ⟨_, _, z⟩
    · exact cost_form l r (k + 1) d z
theorem toPys_mem : ∀ {l : List D} {p : PyData}, p ∈ toPys l → ∃ d ∈ l, p = toPy d
  | [], p, m => by cases m
  | d :: r, p, m => by
    rcases List.mem_cons.mp m with z | z
    · exact ⟨d, List.mem_cons_self, z⟩
    · obtain ⟨x, h1, h2⟩ := toPys_mem z
      exact ⟨x, List.mem_cons_of_mem _ h1, h2⟩
theorem min_pairs (y : D) (ys : List D) (h : ∀ d ∈ y :: ys, ∃ a b : Int, d = .tup [.int a, .int b]) (x : D) (H : Hs) (hx : sqof H x = some (y :: ys)) : minLD [x] H = .ok (best dLt y ys) H := by
  unfold minLD bestD
  simp only [hx]
  rw [if_pos]
  refine ⟨nors_of fun d m => ?_, ?_, ?_, ?_⟩
  · obtain ⟨a, b, rfl⟩ := h d m; rfl
  · refine Nat.le_trans (dpts_le (n := 1) fun d m => ?_) (by decide)
    obtain ⟨a, b, rfl⟩ := h d m; simp [dpt, dpts]
  · intro p mp q mq
    obtain ⟨d, m1, rfl⟩ := toPys_mem mp
    obtain ⟨d', m2, rfl⟩ := toPys_mem mq
    obtain ⟨a, b, rfl⟩ := h d m1
    obtain ⟨a', b', rfl⟩ := h d' m2
    simp [toPy, toPys, PySem.W.alike, PySem.W.alikeAll]
  · intro p mp
    obtain ⟨d, m1, rfl⟩ := toPys_mem mp
    obtain ⟨a, b, rfl⟩ := h d m1
    simp [toPy]
abbrev eL (ns : List Int) (o2 o3 o4 o5 o6 o7 o8 o9 o10 o11 o12 o13 o14 o15 o16 o17 o18 o19 o20 o21 o22 o23 o24 o25 o26 : Option D) : En := [some (.scr ns), some (.ref 1), o2, o3, o4, o5, o6, o7, o8, o9, o10, o11, o12, o13, o14, o15, o16, o17, o18, o19, o20, o21, o22, o23, o24, o25, o26]
theorem ref__law_bag : ∀ ns : List Int, ns.length ≤ 63 → ∃ h n m, fs__law_bag (([D.scr ns].map some) ++ List.replicate (N__law_bag.length - 1) none) [] = .ok (.rt (.ref n)) h ∧ h[n]? = some (bagO ⟨0, 1234567891, 0⟩ m) ∧ h[m]? = some (.lst ((ns.map fun i => if i < 0 then -i else i).map D.int)) := bag_gen
theorem take_ev (many : Int) (hm : 1 ≤ many) (hm2 : many < 1073741824) (cs : List Int) (b : Bn) (hc : cs.length ≤ 63) : ∃ v b', F__law_take [.int many] cs b = .val (.int v) b' ∧ 0 ≤ v ∧ v < many := take_gen many hm hm2 cs b hc
theorem alike_ev (x : D) (hn : x.nor = true) (hs : dsz x ≤ 16777216) : F__law_alike [x, x] = .val (.bl true) := alike_gen x hn hs
theorem tk {cs : List Int} (hc : cs.length ≤ 63) (m : Nat) (h1 : 1 ≤ m) (h2 : m < 1000000) (env : En) (he : env[1]? = some (some (.ref 1))) (b : Bn) (R : Hs) : ∃ (v : Nat) (b' : Bn), v < m ∧ fCallB F__law_take (fCons (fVar 1) (fCons (fC (.int m)) fNil)) env (BH cs b R) = .ok (.int v) (BH cs b' R) :=
  drawH take_ev hc m h1 (by omega) env he b R
theorem tru_of {fe : FE} {e : En} {h h' : Hs} {b : Bool} (q : fe e h = .ok (.bl b) h') : fTru fe e h = .ok b h' := by
  unfold fTru; rw [q]; rfl
theorem tst_of {fe : FE} {e : En} {h h' : Hs} {b : Bool} (q : fe e h = .ok (.bl b) h') : fTest fe e h = .ok b h' := by
  unfold fTest; rw [q]; rfl
theorem cut_mid {α : Type} (xs : List α) (i n : Nat) (h : i + n ≤ xs.length) : cutL xs (some (i : Int)) (some ((i + n : Nat) : Int)) = (xs.drop i).take n := by
  unfold cutL
  rw [HT.sIx_nat, HT.sIx_nat, Nat.min_eq_left (show i ≤ xs.length by omega), Nat.min_eq_left h]
  congr 1
  omega
theorem range_dpt (f m : Nat) : dpts (rangeL f m) = 0 := dpts_zero fun d h => by obtain ⟨i, _, rfl⟩ := mem_range h; rfl
theorem range_dsz (f m : Nat) : dszs (rangeL f m) = m := by
  rw [dszs_ints fun d h => by obtain ⟨i, _, rfl⟩ := mem_range h; simp [dsz], range_len]
theorem mem_BH {cs : List Int} {b : Bn} {r : Hs} (x : Ob) (t : Hs) : (BH cs b (r ++ x :: t))[r.length + 2]? = some x := by
  simp only [BH, List.getElem?_cons_succ]
  rw [List.getElem?_append_right (Nat.le_refl _)]; simp

/-! ### the stacks, as the law finds them -/
theorem due_loop (s : Stk) (o : s.Ok) (ns cs : List Int) (b : Bn) (rest : Hs) (o2 o3 o4 o5 o6 o7 o8 o9 o10 o11 o12 o13 o14 o15 o16 o17 o18 o19 o20 o21 o22 o23 o24 o25 o26 : Option D) : ∀ n j, j + n = s.K →
    whileN ft_law_1 fb_law_1 (n + 1) (eL ns o2 o3 o4 o5 (some (.int s.high)) o7 (some (.int s.sh)) (some (.ref (rest.length + 2))) (some (.int (j * s.high : Nat))) o11 o12 o13 o14 o15 o16 o17 o18 o19 o20 o21 o22 o23 o24 o25 o26) (BH cs b (rest ++ [.lst ((List.range j).map s.it)]))
      = .ok (.nx (eL ns o2 o3 o4 o5 (some (.int s.high)) o7 (some (.int s.sh)) (some (.ref (rest.length + 2))) (some (.int (s.K * s.high : Nat))) o11 o12 o13 o14 o15 o16 o17 o18 o19 o20 o21 o22 o23 o24 o25 o26)) (BH cs b (rest ++ [.lst s.its]))
  | 0, j, e => by
    have hj : j = s.K := by omega
    subst hj
    have h1 := (Stk.K_spec o).1
    have hd : decide (((s.K * s.high : Nat) : Int) < (s.sh : Int)) = false := decide_eq_false (by omega)
    unfold whileN ft_law_1
    simp only [fTest, fOp2, fVar, List.getElem?_cons_succ, List.getElem?_cons_zero, bnd_ok, ltD, hd, Bool.false_eq_true, if_false]
    rfl
  | n + 1, j, e => by
    have h1 := (Stk.K_spec o).2 j (by omega)
    have hK := Stk.K_le o
    have hd : decide (((j * s.high : Nat) : Int) < (s.sh : Int)) = true := decide_eq_true (by omega)
    have ih := due_loop s o ns cs b rest o2 o3 o4 o5 o6 o7 o8 o9 o10 o11 o12 o13 o14 o15 o16 o17 o18 o19 o20 o21 o22 o23 o24 o25 o26 n (j + 1) (by omega)
    have e1 : (if (s.sh : Int) < ((j * s.high : Nat) : Int) + (s.high : Int) then (s.sh : Int) else ((j * s.high : Nat) : Int) + (s.high : Int)) = ((min (j * s.high + s.high) s.sh : Nat) : Int) := by split <;> omega
    have e2 : ((j * s.high : Nat) : Int) + (s.high : Int) = (((j + 1) * s.high : Nat) : Int) := by rw [Nat.add_mul, Nat.one_mul]; omega
    have hl : ((List.range j).map s.it).length < 16777216 := by simp; omega
    have hg : (BH cs b (rest ++ [.lst ((List.range j).map s.it)]))[rest.length + 2]? = some (.lst ((List.range j).map s.it)) := mem_BH _ []
    have hset : (BH cs b (rest ++ [.lst ((List.range j).map s.it)])).set (rest.length + 2) (.lst ((List.range j).map s.it ++ [s.it j])) = BH cs b (rest ++ [.lst ((List.range (j + 1)).map s.it)]) := by
      rw [List.range_succ, List.map_append]
      simp only [BH, List.set_cons_succ]
      rw [List.set_append_right _ _ (Nat.le_refl _)]; simp
    generalize BH cs b (rest ++ [.lst ((List.range j).map s.it)]) = H at hg hset ⊢
    unfold whileN
    have c1 : ft_law_1 (eL ns o2 o3 o4 o5 (some (.int s.high)) o7 (some (.int s.sh)) (some (.ref (rest.length + 2))) (some (.int (j * s.high : Nat))) o11 o12 o13 o14 o15 o16 o17 o18 o19 o20 o21 o22 o23 o24 o25 o26) H = .ok true H := by
      unfold ft_law_1
      simp only [fTest, fOp2, fVar, List.getElem?_cons_succ, List.getElem?_cons_zero, bnd_ok, ltD, hd]
    have c2 : fb_law_1 (eL ns o2 o3 o4 o5 (some (.int s.high)) o7 (some (.int s.sh)) (some (.ref (rest.length + 2))) (some (.int (j * s.high : Nat))) o11 o12 o13 o14 o15 o16 o17 o18 o19 o20 o21 o22 o23 o24 o25 o26) H = .ok (.nx (eL ns o2 o3 o4 o5 (some (.int s.high)) o7 (some (.int s.sh)) (some (.ref (rest.length + 2))) (some (.int ((j + 1) * s.high : Nat))) o11 o12 o13 o14 o15 o16 o17 o18 o19 o20 o21 o22 o23 o24 o25 o26)) (BH cs b (rest ++ [.lst ((List.range (j + 1)).map s.it)])) := by
      unfold fb_law_1
      refine (seqE (e := (eL ns o2 o3 o4 o5 (some (.int s.high)) o7 (some (.int s.sh)) (some (.ref (rest.length + 2))) (some (.int (j * s.high : Nat))) o11 o12 o13 o14 o15 o16 o17 o18 o19 o20 o21 o22 o23 o24 o25 o26)) (h1 := BH cs b (rest ++ [.lst ((List.range (j + 1)).map s.it)])) ?_).trans ?_
      · have ei : s.it j = .tup [.int (j * s.high : Nat), .int (((min (j * s.high + s.high) s.sh : Nat) : Int) - 1)] := rfl
        simp (decide := true) only [fDrop, fBM, fVar, List.getElem?_cons_succ, List.getElem?_cons_zero, bnd_ok, tyD, lof, hg, fCons, fTup, fOp2, fCB, addD, fNil, min2D, e1, subD, fC, if_true, List.length_cons, List.length_nil, ← ei, appendD, own, hl, hset, Option.isSome_some, beq_self_eq_true, Bool.and_self]
      · simp only [fAsg, fOp2, fVar, List.getElem?_cons_succ, List.getElem?_cons_zero, bnd_ok, addD, e2, gN, List.set_cons_succ, List.set_cons_zero]
    rw [c1]
    simp only [bnd_ok, if_true]
    rw [c2]
    exact ih
theorem dszs_le {n : Nat} : ∀ {l : List D}, (∀ d ∈ l, dsz d ≤ n) → dszs l ≤ n * l.length
  | [], _ => by simp [dszs]
  | d :: r, h => by
    have h1 := h d List.mem_cons_self
    have h2 := dszs_le fun x m => h x (List.mem_cons_of_mem _ m)
    rw [dszs, List.length_cons, Nat.mul_add, Nat.mul_one]
    omega
theorem its_len (s : Stk) : s.its.length = s.K := by simp [Stk.its]
theorem all_nor (s : Stk) (k : Nat) : nors (s.all k) = true := nors_of_purs _ (s.pur k)
theorem laidG (s : Stk) (o : s.Ok) (j : Nat) (hj : j < s.K) : F__law_laid [.tup (s.G j)] = .obj (.lst (rangeL (s.b j) (s.m j))) ∧ F_cut_and_laid [.tup (s.G j)] = .val (.tup (rangeL (s.b j) (s.m j))) := by
  obtain ⟨n1, n2, n3, n4⟩ := Stk.n_eq o hj
  have h3 := Stk.sh_le o
  have hn : s.n j ≤ 60 := by unfold Stk.n; omega
  have h5 := o.s2
  have g := GS_grid (s.b j) (s.n j) s.size (s.m j) (by omega) (by omega)
  have e := laid_GS (s.b j) (s.m j) s.size o.s1
  rw [← n3] at e
  have q1 := law_laid_ev g
  have q2 := cut_ev g
  rw [gD_GS, e] at q1 q2
  exact ⟨q1, q2⟩
theorem slice_ok (s : Stk) (o : s.Ok) (j : Nat) (hj : j < s.K) (e : En) (h11 : e[11]? = some (some (.tup (s.all s.K)))) (h13 : e[13]? = some (some (.int (j * s.high : Nat)))) (h14 : e[14]? = some (some (.int (((min (j * s.high + s.high) s.sh : Nat) : Int) - 1)))) (h : Hs) : (fSl slD (fVar 11) (fSo (fVar 13)) (fSo (fOp2 addD (fVar 14) (fC (.int 1))))) e h = .ok (.tup (s.G j)) h := by
  have hk := (Stk.K_spec o).2 j hj
  have e1 : ((min (j * s.high + s.high) s.sh : Nat) : Int) - 1 + 1 = ((j * s.high + s.n j : Nat) : Int) := by unfold Stk.n; omega
  have hl : j * s.high + s.n j ≤ (s.all s.K).length := by rw [Stk.all_sh o]; unfold Stk.n; omega
  simp only [fSl, fSo, fVar, h11, h13, h14, bnd_ok, fOp2, fC, addD, e1, slD, cut_mid _ _ _ hl, Stk.cut o hj]
theorem G_nor (s : Stk) (j : Nat) : (D.tup (s.G j)).nor = true := by rw [nor_tup]; exact nors_of_purs _ (sheets_pur _ _ _ _)
theorem G_len (s : Stk) (o : s.Ok) (j : Nat) : (s.G j).length ≤ 16777216 := by
  have h3 := Stk.sh_le o
  have hn : s.n j ≤ 60 := by unfold Stk.n; omega
  simp [Stk.G, sheetsD]; omega
theorem G_row (s : Stk) (j : Nat) : ∀ d ∈ s.G j, ∃ r : List D, d = .tup r ∧ r.length = s.size := fun d m => by
  obtain ⟨k, _, rfl⟩ := List.mem_map.mp m
  exact ⟨_, rfl, by simp [rowL]⟩
theorem lab_next (s : Stk) (o : s.Ok) (j : Nat) (hj : j < s.K) : min s.many (j * s.high * s.size) = s.b j ∧ s.b j + s.m j = min s.many ((j + 1) * s.high * s.size) := by
  obtain ⟨n1, n2, n3, n4⟩ := Stk.n_eq o hj
  obtain ⟨h1, h2⟩ := Stk.sh_spec o
  have hk := (Stk.K_spec o).2 j hj
  refine ⟨by unfold Stk.b at n2 ⊢; omega, ?_⟩
  rw [← n4]
  have e1 : s.b j + s.n j * s.size = (j * s.high + s.n j) * s.size := by unfold Stk.b; rw [Nat.add_mul]
  rw [e1, Nat.add_mul j 1, Nat.one_mul]
  by_cases c : j * s.high + s.high ≤ s.sh
  · rw [show s.n j = s.high by unfold Stk.n; omega]
  · have e2 : j * s.high + s.n j = s.sh := by unfold Stk.n; omega
    have e3 : s.sh * s.size ≤ (j * s.high + s.high) * s.size := Nat.mul_le_mul_right _ (by omega)
    rw [e2]; omega
theorem full (s : Stk) (o : s.Ok) (j : Nat) (hj : j < s.K) (c : j * s.high + s.high < s.sh) : s.m j = s.high * s.size := by
  obtain ⟨n1, n2, n3, n4⟩ := Stk.n_eq o hj
  obtain ⟨h1, h2⟩ := Stk.sh_spec o
  have h3 := h2 _ c
  have e : s.n j = s.high := by unfold Stk.n; omega
  have e1 : s.b j + s.high * s.size = (j * s.high + s.high) * s.size := by unfold Stk.b; rw [Nat.add_mul]
  unfold Stk.m
  rw [e]
  omega

theorem body_ok (s : Stk) (o : s.Ok) (j : Nat) (hj : j < s.K) (ns : List Int) (H : Hs) (hw : WF H) (o2 o3 o4 o5 o6 o7 o8 o9 o10 o11 o12 o13 o14 o15 o16 o17 o18 o19 o20 o21 o22 o23 o24 o25 o26 : Option D) :
    fb_law_2 (eL ns o2 o3 o4 (some (.int s.many)) (some (.int s.high)) (some (.int s.size)) (some (.int s.sh)) o9 o10 (some (.tup (s.all s.K))) (some (.int (s.b j : Nat))) (some (.int (j * s.high : Nat))) (some (.int (((min (j * s.high + s.high) s.sh : Nat) : Int) - 1))) o15 o16 o17 o18 o19 o20 o21 o22 o23 o24 o25 o26) H = .ok (.nx (eL ns o2 o3 o4 (some (.int s.many)) (some (.int s.high)) (some (.int s.size)) (some (.int s.sh)) o9 o10 (some (.tup (s.all s.K))) (some (.int (s.b j + s.m j : Nat))) (some (.int (j * s.high : Nat))) (some (.int (((min (j * s.high + s.high) s.sh : Nat) : Int) - 1))) (some (.lst (rangeL (s.b j) (s.m j)))) o16 o17 o18 o19 o20 o21 o22 o23 o24 o25 o26)) H := by
  obtain ⟨l1, l2⟩ := laidG s o j hj
  obtain ⟨n1, n2, n3, n4⟩ := Stk.n_eq o hj
  have hm : s.m j ≤ 60 := by have := o.many; unfold Stk.m; omega
  have hb : s.b j ≤ 60 := by have := o.many; omega
  have hrn : nors (rangeL (s.b j) (s.m j)) = true := nors_of_purs _ (range_purs _ _)
  have dG : ∀ h, dall (dref h 6) [D.tup (s.G j)] = some [D.tup (s.G j)] := fun h => dall_nor _ _ (by rw [nors_cons, G_nor]; rfl)
  have rl : (rangeL (s.b j) (s.m j)).length = s.m j := range_len _ _
  unfold fb_law_2
  refine (seqE (e := (eL ns o2 o3 o4 (some (.int s.many)) (some (.int s.high)) (some (.int s.size)) (some (.int s.sh)) o9 o10 (some (.tup (s.all s.K))) (some (.int (s.b j : Nat))) (some (.int (j * s.high : Nat))) (some (.int (((min (j * s.high + s.high) s.sh : Nat) : Int) - 1))) (some (.lst (rangeL (s.b j) (s.m j)))) o16 o17 o18 o19 o20 o21 o22 o23 o24 o25 o26)) (h1 := H) ?_).trans ?_
  · have c : fCall F__law_laid (fCons (fSl slD (fVar 11) (fSo (fVar 13)) (fSo (fOp2 addD (fVar 14) (fC (.int 1))))) fNil) (eL ns o2 o3 o4 (some (.int s.many)) (some (.int s.high)) (some (.int s.size)) (some (.int s.sh)) o9 o10 (some (.tup (s.all s.K))) (some (.int (s.b j : Nat))) (some (.int (j * s.high : Nat))) (some (.int (((min (j * s.high + s.high) s.sh : Nat) : Int) - 1))) o15 o16 o17 o18 o19 o20 o21 o22 o23 o24 o25 o26) H = .ok (.ref H.length) (H ++ [.lst (rangeL (s.b j) (s.m j))]) := call_obj (ds := [.tup (s.G j)]) (by simp only [fCons, slice_ok s o j hj (eL ns o2 o3 o4 (some (.int s.many)) (some (.int s.high)) (some (.int s.size)) (some (.int s.sh)) o9 o10 (some (.tup (s.all s.K))) (some (.int (s.b j : Nat))) (some (.int (j * s.high : Nat))) (some (.int (((min (j * s.high + s.high) s.sh : Nat) : Int) - 1))) o15 o16 o17 o18 o19 o20 o21 o22 o23 o24 o25 o26) rfl rfl rfl, bnd_ok, fNil]) (dG _) l1
    have c' : fVal (fCall F__law_laid (fCons (fSl slD (fVar 11) (fSo (fVar 13)) (fSo (fOp2 addD (fVar 14) (fC (.int 1))))) fNil)) (eL ns o2 o3 o4 (some (.int s.many)) (some (.int s.high)) (some (.int s.size)) (some (.int s.sh)) o9 o10 (some (.tup (s.all s.K))) (some (.int (s.b j : Nat))) (some (.int (j * s.high : Nat))) (some (.int (((min (j * s.high + s.high) s.sh : Nat) : Int) - 1))) o15 o16 o17 o18 o19 o20 o21 o22 o23 o24 o25 o26) H = .ok (.lst (rangeL (s.b j) (s.m j))) H := by unfold fVal; rw [c]; exact val_n hw hrn
    simp only [fAsg, c', bnd_ok]; rfl
  refine (seqE (e := (eL ns o2 o3 o4 (some (.int s.many)) (some (.int s.high)) (some (.int s.size)) (some (.int s.sh)) o9 o10 (some (.tup (s.all s.K))) (some (.int (s.b j : Nat))) (some (.int (j * s.high : Nat))) (some (.int (((min (j * s.high + s.high) s.sh : Nat) : Int) - 1))) (some (.lst (rangeL (s.b j) (s.m j)))) o16 o17 o18 o19 o20 o21 o22 o23 o24 o25 o26)) (h1 := H) ?_).trans ?_
  · refine (ifF (h1 := H) ?_).trans rfl
    have t1 : fTest (fOp2 neD (fVar 15) (fVal (fRL2 false (fVar 12) (fOp2 addD (fVar 12) (fCB lenD (fCons (fVar 15) fNil)))))) (eL ns o2 o3 o4 (some (.int s.many)) (some (.int s.high)) (some (.int s.size)) (some (.int s.sh)) o9 o10 (some (.tup (s.all s.K))) (some (.int (s.b j : Nat))) (some (.int (j * s.high : Nat))) (some (.int (((min (j * s.high + s.high) s.sh : Nat) : Int) - 1))) (some (.lst (rangeL (s.b j) (s.m j)))) o16 o17 o18 o19 o20 o21 o22 o23 o24 o25 o26) H = .ok false H := by
      have k1 : (0 ≤ (s.b j : Int) ∧ (s.b j : Int) ≤ 16777216 ∧ 0 ≤ (s.b j : Int) + (s.m j : Int) ∧ (s.b j : Int) + (s.m j : Int) ≤ 16777216) := ⟨by omega, by omega, by omega, by omega⟩
      have k2 : ((s.b j : Int) + (s.m j : Int) - (s.b j : Int)).toNat = s.m j := by omega
      have r : fVal (fRL2 false (fVar 12) (fOp2 addD (fVar 12) (fCB lenD (fCons (fVar 15) fNil)))) (eL ns o2 o3 o4 (some (.int s.many)) (some (.int s.high)) (some (.int s.size)) (some (.int s.sh)) o9 o10 (some (.tup (s.all s.K))) (some (.int (s.b j : Nat))) (some (.int (j * s.high : Nat))) (some (.int (((min (j * s.high + s.high) s.sh : Nat) : Int) - 1))) (some (.lst (rangeL (s.b j) (s.m j)))) o16 o17 o18 o19 o20 o21 o22 o23 o24 o25 o26) H = .ok (.lst (rangeL (s.b j) (s.m j))) H := by
        unfold fVal
        simp only [fRL2, fVar, List.getElem?_cons_succ, List.getElem?_cons_zero, bnd_ok, fOp2, fCB, fCons, fNil, lenD, lof_lst, rl, addD, k1, and_self, if_true, Bool.false_eq_true, if_false, k2]
        exact val_n hw hrn
      have v : fVar 15 (eL ns o2 o3 o4 (some (.int s.many)) (some (.int s.high)) (some (.int s.size)) (some (.int s.sh)) o9 o10 (some (.tup (s.all s.K))) (some (.int (s.b j : Nat))) (some (.int (j * s.high : Nat))) (some (.int (((min (j * s.high + s.high) s.sh : Nat) : Int) - 1))) (some (.lst (rangeL (s.b j) (s.m j)))) o16 o17 o18 o19 o20 o21 o22 o23 o24 o25 o26) H = .ok (.lst (rangeL (s.b j) (s.m j))) H := rfl
      refine tst_of ?_
      simp only [fOp2, v, r, bnd_ok]
      rw [neD_nor (by rw [nor_lst]; exact hrn) (by rw [nor_lst]; exact hrn) (by rw [dpt, range_dpt]; decide) (by rw [dpt, range_dpt]; decide), deq, deqs_refl _ hrn]; rfl
    have t2 : fTest (fOp2 neD (fCall F_cut_and_laid (fCons (fSl slD (fVar 11) (fSo (fVar 13)) (fSo (fOp2 addD (fVar 14) (fC (.int 1))))) fNil)) (fCB tupleD (fCons (fVar 15) fNil))) (eL ns o2 o3 o4 (some (.int s.many)) (some (.int s.high)) (some (.int s.size)) (some (.int s.sh)) o9 o10 (some (.tup (s.all s.K))) (some (.int (s.b j : Nat))) (some (.int (j * s.high : Nat))) (some (.int (((min (j * s.high + s.high) s.sh : Nat) : Int) - 1))) (some (.lst (rangeL (s.b j) (s.m j)))) o16 o17 o18 o19 o20 o21 o22 o23 o24 o25 o26) H = .ok false H := by
      have c : fCall F_cut_and_laid (fCons (fSl slD (fVar 11) (fSo (fVar 13)) (fSo (fOp2 addD (fVar 14) (fC (.int 1))))) fNil) (eL ns o2 o3 o4 (some (.int s.many)) (some (.int s.high)) (some (.int s.size)) (some (.int s.sh)) o9 o10 (some (.tup (s.all s.K))) (some (.int (s.b j : Nat))) (some (.int (j * s.high : Nat))) (some (.int (((min (j * s.high + s.high) s.sh : Nat) : Int) - 1))) (some (.lst (rangeL (s.b j) (s.m j)))) o16 o17 o18 o19 o20 o21 o22 o23 o24 o25 o26) H = .ok (.tup (rangeL (s.b j) (s.m j))) H := call_val (ds := [.tup (s.G j)]) (by simp only [fCons, slice_ok s o j hj (eL ns o2 o3 o4 (some (.int s.many)) (some (.int s.high)) (some (.int s.size)) (some (.int s.sh)) o9 o10 (some (.tup (s.all s.K))) (some (.int (s.b j : Nat))) (some (.int (j * s.high : Nat))) (some (.int (((min (j * s.high + s.high) s.sh : Nat) : Int) - 1))) (some (.lst (rangeL (s.b j) (s.m j)))) o16 o17 o18 o19 o20 o21 o22 o23 o24 o25 o26) rfl rfl rfl, bnd_ok, fNil]) (dG _) l2
      have v : fCB tupleD (fCons (fVar 15) fNil) (eL ns o2 o3 o4 (some (.int s.many)) (some (.int s.high)) (some (.int s.size)) (some (.int s.sh)) o9 o10 (some (.tup (s.all s.K))) (some (.int (s.b j : Nat))) (some (.int (j * s.high : Nat))) (some (.int (((min (j * s.high + s.high) s.sh : Nat) : Int) - 1))) (some (.lst (rangeL (s.b j) (s.m j)))) o16 o17 o18 o19 o20 o21 o22 o23 o24 o25 o26) H = .ok (.tup (rangeL (s.b j) (s.m j))) H := rfl
      refine tst_of ?_
      simp only [fOp2, c, v, bnd_ok]
      rw [neD_nor (by rw [nor_tup]; exact hrn) (by rw [nor_tup]; exact hrn) (by rw [dpt, range_dpt]; decide) (by rw [dpt, range_dpt]; decide), deq, deqs_refl _ hrn]; rfl
    simp only [fTmpB, fOr, t1, t2, bnd_ok, Bool.false_eq_true, if_false, PF.tmpB_id]
  refine (seqE (e := (eL ns o2 o3 o4 (some (.int s.many)) (some (.int s.high)) (some (.int s.size)) (some (.int s.sh)) o9 o10 (some (.tup (s.all s.K))) (some (.int (s.b j + s.m j : Nat))) (some (.int (j * s.high : Nat))) (some (.int (((min (j * s.high + s.high) s.sh : Nat) : Int) - 1))) (some (.lst (rangeL (s.b j) (s.m j)))) o16 o17 o18 o19 o20 o21 o22 o23 o24 o25 o26)) (h1 := H) ?_).trans ?_
  · have e3 : (s.b j : Int) + (s.m j : Int) = ((s.b j + s.m j : Nat) : Int) := by omega
    simp only [fAug, fCB, fCons, fVar, List.getElem?_cons_succ, List.getElem?_cons_zero, bnd_ok, fNil, lenD, lof_lst, rl, iaddD, addD, e3, List.set_cons_succ, List.set_cons_zero]
  refine (seqE (e := (eL ns o2 o3 o4 (some (.int s.many)) (some (.int s.high)) (some (.int s.size)) (some (.int s.sh)) o9 o10 (some (.tup (s.all s.K))) (some (.int (s.b j + s.m j : Nat))) (some (.int (j * s.high : Nat))) (some (.int (((min (j * s.high + s.high) s.sh : Nat) : Int) - 1))) (some (.lst (rangeL (s.b j) (s.m j)))) o16 o17 o18 o19 o20 o21 o22 o23 o24 o25 o26)) (h1 := H) ?_).trans ?_
  · refine (ifF (h1 := H) ?_).trans rfl
    have c : fVal (fLc fi_law_1 (gN 16) fc_law_1 fe_law_1 [16]) (eL ns o2 o3 o4 (some (.int s.many)) (some (.int s.high)) (some (.int s.size)) (some (.int s.sh)) o9 o10 (some (.tup (s.all s.K))) (some (.int (s.b j + s.m j : Nat))) (some (.int (j * s.high : Nat))) (some (.int (((min (j * s.high + s.high) s.sh : Nat) : Int) - 1))) (some (.lst (rangeL (s.b j) (s.m j)))) o16 o17 o18 o19 o20 o21 o22 o23 o24 o25 o26) H = .ok (.lst []) H := by
      have q := val_lc (fi := fi_law_1) (fg := gN 16) (fc := fc_law_1) (fe := fe_law_1) (vs := [16]) (env := (eL ns o2 o3 o4 (some (.int s.many)) (some (.int s.high)) (some (.int s.size)) (some (.int s.sh)) o9 o10 (some (.tup (s.all s.K))) (some (.int (s.b j + s.m j : Nat))) (some (.int (j * s.high : Nat))) (some (.int (((min (j * s.high + s.high) s.sh : Nat) : Int) - 1))) (some (.lst (rangeL (s.b j) (s.m j)))) o16 o17 o18 o19 o20 o21 o22 o23 o24 o25 o26)) (h0 := H) (l := s.G j) (gd := []) (fun _ => none) hw (by unfold fi_law_1 fIter; rw [slice_ok s o j hj (eL ns o2 o3 o4 (some (.int s.many)) (some (.int s.high)) (some (.int s.size)) (some (.int s.sh)) o9 o10 (some (.tup (s.all s.K))) (some (.int (s.b j + s.m j : Nat))) (some (.int (j * s.high : Nat))) (some (.int (((min (j * s.high + s.high) s.sh : Nat) : Int) - 1))) (some (.lst (rangeL (s.b j) (s.m j)))) o16 o17 o18 o19 o20 o21 o22 o23 o24 o25 o26) rfl rfl rfl]; rfl) (fun p m => by cases m) (G_len s o j) (fun d m h x => by
        obtain ⟨r, rfl, hr⟩ := G_row s j d m
        refine ⟨(eL ns o2 o3 o4 (some (.int s.many)) (some (.int s.high)) (some (.int s.size)) (some (.int s.sh)) o9 o10 (some (.tup (s.all s.K))) (some (.int (s.b j + s.m j : Nat))) (some (.int (j * s.high : Nat))) (some (.int (((min (j * s.high + s.high) s.sh : Nat) : Int) - 1))) (some (.lst (rangeL (s.b j) (s.m j)))) (some (.tup r)) o17 o18 o19 o20 o21 o22 o23 o24 o25 o26), rfl, ?_⟩
        unfold fc_law_1
        refine tst_of ?_
        simp only [fOp2, fCB, fCons, fVar, List.getElem?_cons_succ, List.getElem?_cons_zero, bnd_ok, fNil, lenD, hr, neD_int]
        simp)
      have e2 : (s.G j).filterMap (fun _ => (none : Option D)) = [] := by simp
      rw [e2] at q
      exact q
    have v : fVal (fLst fNil) (eL ns o2 o3 o4 (some (.int s.many)) (some (.int s.high)) (some (.int s.size)) (some (.int s.sh)) o9 o10 (some (.tup (s.all s.K))) (some (.int (s.b j + s.m j : Nat))) (some (.int (j * s.high : Nat))) (some (.int (((min (j * s.high + s.high) s.sh : Nat) : Int) - 1))) (some (.lst (rangeL (s.b j) (s.m j)))) o16 o17 o18 o19 o20 o21 o22 o23 o24 o25 o26) H = .ok (.lst []) H := val_lst hw rfl rfl (by decide)
    unfold fTmpB
    rw [tst_of (b := false) (h' := H) (by
      simp only [fOp2, c, v, bnd_ok]
      rw [neD_nor rfl rfl (by decide) (by decide)]; rfl)]
    exact PF.tmpB_id _ _
  · refine (ifF (h1 := H) ?_).trans rfl
    by_cases c : j * s.high + s.high < s.sh
    · have hf := full s o j hj c
      have d1 : decide (((min (j * s.high + s.high) s.sh : Nat) : Int) - 1 < (s.sh : Int) - 1) = true := decide_eq_true (by omega)
      have hz : ((s.size : Int)).natAbs < 18446744073709551616 := by have := o.s2; omega
      have e4 : (s.high : Int) * (s.size : Int) = ((s.m j : Nat) : Int) := by rw [hf]; simp
      simp only [fAnd, fTest, fOp2, fVar, List.getElem?_cons_succ, List.getElem?_cons_zero, bnd_ok, fC, subD, ltD, d1, if_true, fCB, fCons, fNil, lenD, lof_lst, rl, mulD, hz, or_true, e4, neD_int]
      simp
    · have d1 : decide (((min (j * s.high + s.high) s.sh : Nat) : Int) - 1 < (s.sh : Int) - 1) = false := decide_eq_false (by omega)
      simp only [fAnd, fTest, fOp2, fVar, List.getElem?_cons_succ, List.getElem?_cons_zero, bnd_ok, fC, subD, ltD, d1, Bool.false_eq_true, if_false]
theorem stacks_for (s : Stk) (o : s.Ok) (ns cs : List Int) (b : Bn) (rest : Hs) (hr : rest.all obNor = true) (o2 o3 o4 o5 o6 o7 o8 o9 o10 o11 o12 o13 o14 o15 o16 o17 o18 o19 o20 o21 o22 o23 o24 o25 o26 : Option D) : ∃ p13 p14 p15 p16,
    fFor fi_law_2 (gT 2 (gConsF (gN 13) (gConsF (gN 14) gNilF))) fb_law_2 (eL ns o2 o3 o4 (some (.int s.many)) (some (.int s.high)) (some (.int s.size)) (some (.int s.sh)) (some (.ref (rest.length + 2))) o10 (some (.tup (s.all s.K))) (some (.int 0)) o13 o14 o15 o16 o17 o18 o19 o20 o21 o22 o23 o24 o25 o26) (BH cs b (rest ++ [.lst s.its]))
      = .ok (.nx (eL ns o2 o3 o4 (some (.int s.many)) (some (.int s.high)) (some (.int s.size)) (some (.int s.sh)) (some (.ref (rest.length + 2))) o10 (some (.tup (s.all s.K))) (some (.int s.many)) p13 p14 p15 p16 o17 o18 o19 o20 o21 o22 o23 o24 o25 o26)) (BH cs b (rest ++ [.lst s.its])) := by
  have hg : (BH cs b (rest ++ [.lst s.its]))[rest.length + 2]? = some (.lst s.its) := mem_BH _ []
  have hw : WF (BH cs b (rest ++ [.lst s.its])) := BH_wf (by rw [List.all_append, hr]; simp [obNor, nors_of_purs _ s.its_pur])
  generalize BH cs b (rest ++ [.lst s.its]) = H at hg hw ⊢
  obtain ⟨e', h', z1, p13, p14, p15, p16, done, rfl, rfl, z2⟩ := for_rel (fg := gT 2 (gConsF (gN 13) (gConsF (gN 14) gNilF))) (fb := fb_law_2) (s := ⟨s.its, [(rest.length + 2, s.its)]⟩) (fun l e h => ∃ p13 p14 p15 p16 done, e = (eL ns o2 o3 o4 (some (.int s.many)) (some (.int s.high)) (some (.int s.size)) (some (.int s.sh)) (some (.ref (rest.length + 2))) o10 (some (.tup (s.all s.K))) (some (.int (min s.many (done * s.high * s.size) : Nat))) p13 p14 p15 p16 o17 o18 o19 o20 o21 o22 o23 o24 o25 o26) ∧ h = H ∧ s.its = (List.range done).map s.it ++ l)
    (fun l e h i => by
      obtain ⟨p13, p14, p15, p16, done, rfl, rfl, _⟩ := i
      exact good_own hg)
    (fun x r e h i => by
      obtain ⟨p13, p14, p15, p16, done, rfl, rfl, hd⟩ := i
      have hk : done < s.K := by
        have := congrArg List.length hd
        simp [Stk.its] at this
        omega
      have hx : x = s.it done := by
        have h1 : s.its[done]? = some x := by rw [hd, List.getElem?_append_right (by simp)]; simp
        unfold Stk.its at h1
        rw [List.getElem?_map, List.getElem?_range hk] at h1
        exact (Option.some.inj h1).symm
      subst hx
      obtain ⟨t1, t2⟩ := lab_next s o done hk
      have q := body_ok s o done hk ns h hw o2 o3 o4 none none none none (some (.ref (rest.length + 2))) o10 none none none none none p16 o17 o18 o19 o20 o21 o22 o23 o24 o25 o26
      rw [t1, t2] at *
      exact ⟨_, _, rfl, _, _, .inl q, _, _, _, _, done + 1, rfl, rfl, by rw [List.range_succ, List.map_append, hd]; simp⟩)
    s.its (eL ns o2 o3 o4 (some (.int s.many)) (some (.int s.high)) (some (.int s.size)) (some (.int s.sh)) (some (.ref (rest.length + 2))) o10 (some (.tup (s.all s.K))) (some (.int 0)) o13 o14 o15 o16 o17 o18 o19 o20 o21 o22 o23 o24 o25 o26) H ⟨o13, o14, o15, o16, 0, by simp, rfl, rfl⟩
  have hd : done = s.K := by
    have := congrArg List.length z2
    simp [Stk.its] at this
    exact this.symm
  subst hd
  have hmn : min s.many (s.K * s.high * s.size) = s.many := by
    have h1 := (Stk.K_spec o).1
    have h2 := (Stk.sh_spec o).1
    have h3 : s.sh * s.size ≤ s.K * s.high * s.size := Nat.mul_le_mul_right _ h1
    omega
  rw [hmn] at z1
  exact ⟨p13, p14, p15, p16, forE (by unfold fi_law_2 fIter; simp only [fVar, List.getElem?_cons_succ, List.getElem?_cons_zero, bnd_ok, srcOf, hg]) z1⟩

theorem chk_a (s : Stk) (o : s.Ok) (A Dn : Nat) (hA : A ≤ 1000) (hsz : s.size = A * Dn) (ns : List Int) (H : Hs) (hw : WF H) (rest : Hs) (hg : H[rest.length + 2]? = some (.lst s.its)) (o2 o3 o4 o5 o6 o7 o8 o9 o10 o11 o12 o13 o14 o15 o16 o17 o18 o19 o20 o21 o22 o23 o24 o25 o26 : Option D) :
    fTmpB (fOr (fNot (fTru (fCall F__law_alike (fCons (fCall F_stacks (fCons (fVar 5) (fCons (fVar 3) (fCons (fVar 4) (fCons (fVar 6) fNil))))) (fCons (fCB tupleD (fCons (fVar 9) fNil)) fNil))))) (fTest (fOp2 neD (fCB lenD (fCons (fVar 11) fNil)) (fVar 8)))) (eL ns o2 (some (.int A)) (some (.int Dn)) (some (.int s.many)) (some (.int s.high)) (some (.int s.size)) (some (.int s.sh)) (some (.ref (rest.length + 2))) o10 (some (.tup (s.all s.K))) o12 o13 o14 o15 o16 o17 o18 o19 o20 o21 o22 o23 o24 o25 o26) H = .ok false H := by
  have c1 : fCall F_stacks (fCons (fVar 5) (fCons (fVar 3) (fCons (fVar 4) (fCons (fVar 6) fNil)))) (eL ns o2 (some (.int A)) (some (.int Dn)) (some (.int s.many)) (some (.int s.high)) (some (.int s.size)) (some (.int s.sh)) (some (.ref (rest.length + 2))) o10 (some (.tup (s.all s.K))) o12 o13 o14 o15 o16 o17 o18 o19 o20 o21 o22 o23 o24 o25 o26) H = .ok (.tup s.its) H := call_val (ds := [.int s.many, .int A, .int Dn, .int s.high]) rfl (dall_nor _ _ rfl) (stacks_ev s o A Dn hsz hA)
  have c2 : fCB tupleD (fCons (fVar 9) fNil) (eL ns o2 (some (.int A)) (some (.int Dn)) (some (.int s.many)) (some (.int s.high)) (some (.int s.size)) (some (.int s.sh)) (some (.ref (rest.length + 2))) o10 (some (.tup (s.all s.K))) o12 o13 o14 o15 o16 o17 o18 o19 o20 o21 o22 o23 o24 o25 o26) H = .ok (.tup s.its) H := by
    simp only [fCB, fCons, fVar, List.getElem?_cons_succ, List.getElem?_cons_zero, bnd_ok, fNil, tupleD, lof, hg]
  have hK := Stk.K_le o
  have c3 := alkV (env := (eL ns o2 (some (.int A)) (some (.int Dn)) (some (.int s.many)) (some (.int s.high)) (some (.int s.size)) (some (.int s.sh)) (some (.ref (rest.length + 2))) o10 (some (.tup (s.all s.K))) o12 o13 o14 o15 o16 o17 o18 o19 o20 o21 o22 o23 o24 o25 o26)) alike_ev (fa := fCons (fCall F_stacks (fCons (fVar 5) (fCons (fVar 3) (fCons (fVar 4) (fCons (fVar 6) fNil))))) (fCons (fCB tupleD (fCons (fVar 9) fNil)) fNil)) (x := .tup s.its) (h := H) (by
    simp only [fCons, c1, c2, bnd_ok, fNil]) (by rw [nor_tup]; exact nors_of_purs _ s.its_pur) (by
      have h1 := dszs_le (n := 3) (l := s.its) fun d m => by
        obtain ⟨k, _, rfl⟩ := List.mem_map.mp m
        simp [Stk.it, dsz, dszs]
      rw [its_len] at h1
      rw [dsz]; omega)
  have c4 : fTest (fOp2 neD (fCB lenD (fCons (fVar 11) fNil)) (fVar 8)) (eL ns o2 (some (.int A)) (some (.int Dn)) (some (.int s.many)) (some (.int s.high)) (some (.int s.size)) (some (.int s.sh)) (some (.ref (rest.length + 2))) o10 (some (.tup (s.all s.K))) o12 o13 o14 o15 o16 o17 o18 o19 o20 o21 o22 o23 o24 o25 o26) H = .ok false H := tst_of (by
    simp only [fOp2, fCB, fCons, fVar, List.getElem?_cons_succ, List.getElem?_cons_zero, bnd_ok, fNil, lenD, Stk.all_sh o, neD_int]; simp)
  simp only [fTmpB, fOr, fNot, tru_of c3, c4, bnd_ok, Bool.not_true, Bool.false_eq_true, if_false, PF.tmpB_id]
/-- one stack of all sheets: as they are printed -/
theorem one_stack (s : Stk) (o : s.Ok) (h : s.high = 60) : s.all s.K = sheetsD 0 s.sh s.size s.many := by
  have h1 := Stk.sh_le o
  obtain ⟨h2, h3⟩ := Stk.K_spec o
  obtain ⟨h4, h5⟩ := Stk.sh_spec o
  by_cases c : s.sh = 0
  · have hK : s.K = 0 := by
      by_cases k : s.K = 0
      · exact k
      · have := h3 0 (by omega); omega
    rw [hK, c]; rfl
  · have hK : s.K = 1 := by
      have k1 : 1 ≤ s.K := by
        by_cases k : s.K = 0
        · rw [k] at h2; omega
        · omega
      by_cases k2 : s.K = 1
      · exact k2
      · have := h3 1 (by omega); omega
    have e1 : s.n 0 = s.sh := by unfold Stk.n; omega
    have e2 : s.b 0 = 0 := by unfold Stk.b; simp
    have e3 : s.m 0 = s.many := by unfold Stk.m; rw [e1, e2]; omega
    rw [hK]
    show s.G 0 ++ [] = _
    rw [List.append_nil]
    unfold Stk.G
    rw [e1, e2, e3]
theorem order_ev (m a d : Nat) (hm : m ≤ 100) (ha : 1 ≤ a) (ha2 : a ≤ 10) (hd : 1 ≤ d) (hd2 : d ≤ 10) : F_piled_order [.int m, .int a, .int d] = .val (.tup (sheetsD 0 ((m + a * d - 1) / (a * d)) (a * d) m)) := by
  have h1 : 1 ≤ a * d := Nat.mul_le_mul ha hd
  have h2 : a * d ≤ 100 := Nat.mul_le_mul ha2 hd2
  have h3 : (m + a * d - 1) / (a * d) ≤ 1000 := Nat.le_trans (Nat.div_le_self _ _) (by omega)
  have c1 : ∀ o h, fCall F_slots (fCons (fVar 1) (fCons (fVar 2) fNil)) [some (.int m), some (.int a), some (.int d), o] h = .ok (.int (a * d : Nat)) h := fun o h => call_val (ds := [.int a, .int d]) rfl (dall_nor _ _ rfl) (slots_ev a d (by omega))
  have c2 : ∀ h, fCall F_rounded_up (fCons (fVar 0) (fCons (fVar 3) fNil)) [some (.int m), some (.int a), some (.int d), some (.int (a * d : Nat))] h = .ok (.int ((m + a * d - 1) / (a * d) : Nat)) h := fun h => call_val (ds := [.int m, .int (a * d : Nat)]) rfl (dall_nor _ _ rfl) (up_ev m (a * d) h1 (by omega))
  have pe := printed_ev 0 ((m + a * d - 1) / (a * d)) (a * d) m h3 (by omega)
  rw [Nat.zero_add] at pe
  have c3 : fCall F_printed_on (fCons (fCall F_rounded_up (fCons (fVar 0) (fCons (fVar 3) fNil))) (fCons (fVar 3) (fCons (fC (.int 0)) (fCons (fVar 0) fNil)))) [some (.int m), some (.int a), some (.int d), some (.int (a * d : Nat))] [] = .ok (.ref 0) [.lst (sheetsD 0 ((m + a * d - 1) / (a * d)) (a * d) m)] := by
    have q := call_obj (F := F_printed_on) (fa := fCons (fCall F_rounded_up (fCons (fVar 0) (fCons (fVar 3) fNil))) (fCons (fVar 3) (fCons (fC (.int 0)) (fCons (fVar 0) fNil)))) (env := [some (.int m), some (.int a), some (.int d), some (.int (a * d : Nat))]) (h := []) (h' := []) (ds := [.int ((m + a * d - 1) / (a * d) : Nat), .int (a * d : Nat), .int 0, .int m]) (by
      simp only [fCons, c2, fVar, List.getElem?_cons_succ, List.getElem?_cons_zero, bnd_ok, fC, fNil]) (dall_nor _ _ rfl) pe
    exact q
  have hsp := sheets_pur 0 ((m + a * d - 1) / (a * d)) (a * d) m
  have c4 : fVal (fCall F_printed_on (fCons (fCall F_rounded_up (fCons (fVar 0) (fCons (fVar 3) fNil))) (fCons (fVar 3) (fCons (fC (.int 0)) (fCons (fVar 0) fNil))))) [some (.int m), some (.int a), some (.int d), some (.int (a * d : Nat))] [] = .ok (.lst (sheetsD 0 ((m + a * d - 1) / (a * d)) (a * d) m)) [] := by
    unfold fVal
    rw [c3]
    exact val_n (h := []) rfl (nors_of_purs _ hsp)
  unfold F_piled_order runP fs_piled_order
  simp (decide := true) only [fSeq, fAsg, fTmp, List.map_cons, List.map_nil, List.replicate, List.length_cons, List.length_nil, Nat.reduceAdd, Nat.zero_add, Nat.reduceSub, List.cons_append, List.nil_append, c1, bnd_ok, tmpR_id (show (D.int ((a * d : Nat) : Int)).pur = true from rfl), gN, List.set_cons_succ, List.set_cons_zero, fRet, fCB, fCons, fNil, c4, tupleD, lof_lst, toP, pur_tup, hsp, if_true, noE]

theorem chk_b (s : Stk) (o : s.Ok) (A Dn : Nat) (hA1 : 1 ≤ A) (hA : A ≤ 10) (hD1 : 1 ≤ Dn) (hD : Dn ≤ 10) (hsz : s.size = A * Dn) (ns : List Int) (H : Hs) (o2 o3 o4 o5 o6 o7 o8 o9 o10 o11 o12 o13 o14 o15 o16 o17 o18 o19 o20 o21 o22 o23 o24 o25 o26 : Option D) :
    fTmpB (fOr (fTest (fOp2 neD (fVar 12) (fVar 5))) (fNot (fTru (fCall F__law_alike (fCons (fCall F_stacked_order (fCons (fVar 5) (fCons (fVar 3) (fCons (fVar 4) (fCons (fC (.int 60)) fNil))))) (fCons (fCall F_piled_order (fCons (fVar 5) (fCons (fVar 3) (fCons (fVar 4) fNil)))) fNil)))))) (eL ns o2 (some (.int A)) (some (.int Dn)) (some (.int s.many)) (some (.int s.high)) (some (.int s.size)) (some (.int s.sh)) o9 o10 o11 (some (.int s.many)) o13 o14 o15 o16 o17 o18 o19 o20 o21 o22 o23 o24 o25 o26) H = .ok false H := by
  have o' : (Stk.mk s.many s.size 60).Ok := ⟨o.many, o.s1, o.s2, (by decide : 1 ≤ 60), (by decide : 60 ≤ 60)⟩
  have q1 := stacked_ev ⟨s.many, s.size, 60⟩ o' A Dn hsz (by omega)
  rw [one_stack _ o' rfl] at q1
  have q2 := order_ev s.many A Dn (by have := o.many; omega) hA1 hA hD1 hD
  rw [← hsz] at q2
  have hsp := sheets_pur 0 s.sh s.size s.many
  have c1 : fCall F_stacked_order (fCons (fVar 5) (fCons (fVar 3) (fCons (fVar 4) (fCons (fC (.int 60)) fNil)))) (eL ns o2 (some (.int A)) (some (.int Dn)) (some (.int s.many)) (some (.int s.high)) (some (.int s.size)) (some (.int s.sh)) o9 o10 o11 (some (.int s.many)) o13 o14 o15 o16 o17 o18 o19 o20 o21 o22 o23 o24 o25 o26) H = .ok (.tup (sheetsD 0 s.sh s.size s.many)) H := call_val (ds := [.int s.many, .int A, .int Dn, .int 60]) rfl (dall_nor _ _ rfl) q1
  have c2 : fCall F_piled_order (fCons (fVar 5) (fCons (fVar 3) (fCons (fVar 4) fNil))) (eL ns o2 (some (.int A)) (some (.int Dn)) (some (.int s.many)) (some (.int s.high)) (some (.int s.size)) (some (.int s.sh)) o9 o10 o11 (some (.int s.many)) o13 o14 o15 o16 o17 o18 o19 o20 o21 o22 o23 o24 o25 o26) H = .ok (.tup (sheetsD 0 s.sh s.size s.many)) H := call_val (ds := [.int s.many, .int A, .int Dn]) rfl (dall_nor _ _ rfl) q2
  have h1 := Stk.sh_le o
  have h2 := o.s2
  have c3 := alkV (env := (eL ns o2 (some (.int A)) (some (.int Dn)) (some (.int s.many)) (some (.int s.high)) (some (.int s.size)) (some (.int s.sh)) o9 o10 o11 (some (.int s.many)) o13 o14 o15 o16 o17 o18 o19 o20 o21 o22 o23 o24 o25 o26)) alike_ev (fa := fCons (fCall F_stacked_order (fCons (fVar 5) (fCons (fVar 3) (fCons (fVar 4) (fCons (fC (.int 60)) fNil))))) (fCons (fCall F_piled_order (fCons (fVar 5) (fCons (fVar 3) (fCons (fVar 4) fNil)))) fNil)) (x := .tup (sheetsD 0 s.sh s.size s.many)) (h := H) (by
    simp only [fCons, c1, c2, bnd_ok, fNil]) (by rw [nor_tup]; exact nors_of_purs _ hsp) (by
      have h3 := dszs_le (n := 200) (l := sheetsD 0 s.sh s.size s.many) fun d m => by
        obtain ⟨k, _, rfl⟩ := List.mem_map.mp m
        have h4 := dszs_le (n := 1) (l := rowL 0 k s.size s.sh s.many) fun x mx => by
          obtain ⟨i, _, rfl⟩ := List.mem_map.mp mx
          rcases sh_cases 0 k i s.sh s.many with z | ⟨y, z⟩ <;> rw [z] <;> simp [dsz]
        have h5 : (rowL 0 k s.size s.sh s.many).length = s.size := by simp [rowL]
        rw [h5] at h4
        unfold rowD; rw [dsz]; omega
      have h6 : (sheetsD 0 s.sh s.size s.many).length = s.sh := by simp [sheetsD]
      rw [h6] at h3
      rw [dsz]; omega)
  have c4 : fTest (fOp2 neD (fVar 12) (fVar 5)) (eL ns o2 (some (.int A)) (some (.int Dn)) (some (.int s.many)) (some (.int s.high)) (some (.int s.size)) (some (.int s.sh)) o9 o10 o11 (some (.int s.many)) o13 o14 o15 o16 o17 o18 o19 o20 o21 o22 o23 o24 o25 o26) H = .ok false H := tst_of (by
    simp only [fOp2, fVar, List.getElem?_cons_succ, List.getElem?_cons_zero, bnd_ok, neD_int]; simp)
  simp only [fTmpB, fOr, fNot, tru_of c3, c4, bnd_ok, Bool.not_true, Bool.false_eq_true, if_false, PF.tmpB_id]
theorem counts_ev (ns cs : List Int) (hc : cs.length ≤ 63) (b : Bn) (rest : Hs) (hr : rest.all obNor = true) (o2 o3 o4 o5 o6 o7 o8 o9 o10 o11 o12 o13 o14 o15 o16 o17 o18 o19 o20 o21 o22 o23 o24 o25 o26 : Option D) : ∃ (l : List Nat) (b' : Bn), l.length ≤ 4 ∧
    fTmp (fCB tupleD (fCons (fVal (fLc fi_law_3 (gN 18) fYes fe_law_2 [18])) fNil)) (eL ns o2 o3 o4 o5 o6 o7 o8 o9 o10 o11 o12 o13 o14 o15 o16 o17 o18 o19 o20 o21 o22 o23 o24 o25 o26) (BH cs b rest) = .ok (.tup (cntD l)) (BH cs b' rest) := by
  obtain ⟨v, b1, hv, e1⟩ := tk hc 4 (by decide) (by decide) (eL ns o2 o3 o4 o5 o6 o7 o8 o9 o10 o11 o12 o13 o14 o15 o16 o17 o18 o19 o20 o21 o22 o23 o24 o25 o26) rfl b rest
  have k0 : ((1 : Int) + (v : Int)).natAbs < 4611686018427387904 := by omega
  have k1 : ((1 : Int) + (v : Int)).toNat = v + 1 := by omega
  obtain ⟨ys, b2, q, hy⟩ := (frm_BH cs).draw (fi := fi_law_3) (fg := gN 18) (fe := fe_law_2) (vs := [18]) (env := (eL ns o2 o3 o4 o5 o6 o7 o8 o9 o10 o11 o12 o13 o14 o15 o16 o17 o18 o19 o20 o21 o22 o23 o24 o25 o26)) (b := b) (b' := b1) (r := rest) (l := rangeL 0 (v + 1)) (fun _ y => ∃ n : Nat, y = .int n) hr (by rw [range_len]; omega) (by
    unfold fi_law_3
    simp only [fRng1, fCons, fOp2, fC, bnd_ok, show fCallB F__law_take (fCons (fVar 1) (fCons (fC (.int 4)) fNil)) (eL ns o2 o3 o4 o5 o6 o7 o8 o9 o10 o11 o12 o13 o14 o15 o16 o17 o18 o19 o20 o21 o22 o23 o24 o25 o26) (BH cs b rest) = _ from e1, addD, fNil, k0, if_true, k1]) (fun d _ b3 t ht => by
      obtain ⟨n, b4, _, e2⟩ := tk hc 30 (by decide) (by decide) (eL ns o2 o3 o4 o5 o6 o7 o8 o9 o10 o11 o12 o13 o14 o15 o16 o17 (some d) o19 o20 o21 o22 o23 o24 o25 o26) rfl b3 (rest ++ t)
      refine ⟨(eL ns o2 o3 o4 o5 o6 o7 o8 o9 o10 o11 o12 o13 o14 o15 o16 o17 (some d) o19 o20 o21 o22 o23 o24 o25 o26), .int n, b4, rfl, ?_, ⟨n, rfl⟩, rfl⟩
      unfold fe_law_2 fTmp
      rw [show fCallB F__law_take (fCons (fVar 1) (fCons (fC (.int 30)) fNil)) (eL ns o2 o3 o4 o5 o6 o7 o8 o9 o10 o11 o12 o13 o14 o15 o16 o17 (some d) o19 o20 o21 o22 o23 o24 o25 o26) (BH cs b3 (rest ++ t)) = _ from e2]
      exact (frm_BH cs).tmp' rfl (by rw [List.all_append, hr, ht]; rfl))
  have hl : ys.length = v + 1 := by rw [← hy.length_eq, range_len]
  obtain ⟨l, rfl⟩ : ∃ l, ys = cntD l := by
    have h := Frm.ok_all hy
    clear q hy hl
    induction ys with
    | nil => exact ⟨[], rfl⟩
    | cons y r ih =>
      obtain ⟨_, _, n, rfl⟩ := h y List.mem_cons_self
      obtain ⟨l, rfl⟩ := ih fun x m => h x (List.mem_cons_of_mem _ m)
      exact ⟨n :: l, rfl⟩
  refine ⟨l, b2, by unfold cntD at hl; rw [List.length_map] at hl; omega, ?_⟩
  unfold fTmp
  simp only [fCB, fCons, q, bnd_ok, fNil, tupleD, lof_lst]
  exact (frm_BH cs).tmp' (by rw [pur_tup]; exact cnt_pur l) hr
theorem offers_ev (ns cs : List Int) (hc : cs.length ≤ 63) (b : Bn) (rest : Hs) (hr : rest.all obNor = true) (o2 o3 o4 o5 o6 o7 o8 o9 o10 o11 o12 o13 o14 o15 o16 o17 o18 o19 o20 o21 o22 o23 o24 o25 o26 : Option D) : ∃ (l : List Off) (b' : Bn), l.length ≤ 5 ∧ l ≠ [] ∧ (∀ o ∈ l, o.Ok) ∧
    fTmp (fCB tupleD (fCons (fVal (fLc fi_law_4 (gN 18) fYes fe_law_3 [18])) fNil)) (eL ns o2 o3 o4 o5 o6 o7 o8 o9 o10 o11 o12 o13 o14 o15 o16 o17 o18 o19 o20 o21 o22 o23 o24 o25 o26) (BH cs b rest) = .ok (.tup (l.map Off.d)) (BH cs b' rest) := by
  obtain ⟨v, b1, hv, e1⟩ := tk hc 5 (by decide) (by decide) (eL ns o2 o3 o4 o5 o6 o7 o8 o9 o10 o11 o12 o13 o14 o15 o16 o17 o18 o19 o20 o21 o22 o23 o24 o25 o26) rfl b rest
  have k0 : ((1 : Int) + (v : Int)).natAbs < 4611686018427387904 := by omega
  have k1 : ((1 : Int) + (v : Int)).toNat = v + 1 := by omega
  obtain ⟨ys, b2, q, hy⟩ := (frm_BH cs).draw (fi := fi_law_4) (fg := gN 18) (fe := fe_law_3) (vs := [18]) (env := (eL ns o2 o3 o4 o5 o6 o7 o8 o9 o10 o11 o12 o13 o14 o15 o16 o17 o18 o19 o20 o21 o22 o23 o24 o25 o26)) (b := b) (b' := b1) (r := rest) (l := rangeL 0 (v + 1)) (fun _ y => ∃ o : Off, o.Ok ∧ y = o.d) hr (by rw [range_len]; omega) (by
    unfold fi_law_4
    simp only [fRng1, fCons, fOp2, fC, bnd_ok, show fCallB F__law_take (fCons (fVar 1) (fCons (fC (.int 5)) fNil)) (eL ns o2 o3 o4 o5 o6 o7 o8 o9 o10 o11 o12 o13 o14 o15 o16 o17 o18 o19 o20 o21 o22 o23 o24 o25 o26) (BH cs b rest) = _ from e1, addD, fNil, k0, if_true, k1]) (fun d _ b3 t ht => by
      obtain ⟨n1, b4, m1, e2⟩ := tk hc 4 (by decide) (by decide) (eL ns o2 o3 o4 o5 o6 o7 o8 o9 o10 o11 o12 o13 o14 o15 o16 o17 (some d) o19 o20 o21 o22 o23 o24 o25 o26) rfl b3 (rest ++ t)
      obtain ⟨n2, b5, m2, e3⟩ := tk hc 4 (by decide) (by decide) (eL ns o2 o3 o4 o5 o6 o7 o8 o9 o10 o11 o12 o13 o14 o15 o16 o17 (some d) o19 o20 o21 o22 o23 o24 o25 o26) rfl b4 (rest ++ t)
      obtain ⟨n3, b6, m3, e4⟩ := tk hc 9 (by decide) (by decide) (eL ns o2 o3 o4 o5 o6 o7 o8 o9 o10 o11 o12 o13 o14 o15 o16 o17 (some d) o19 o20 o21 o22 o23 o24 o25 o26) rfl b5 (rest ++ t)
      have a1 : (1 : Int) + (n1 : Int) = ((1 + n1 : Nat) : Int) := by omega
      have a2 : (1 : Int) + (n2 : Int) = ((1 + n2 : Nat) : Int) := by omega
      refine ⟨(eL ns o2 o3 o4 o5 o6 o7 o8 o9 o10 o11 o12 o13 o14 o15 o16 o17 (some d) o19 o20 o21 o22 o23 o24 o25 o26), Off.d ⟨1 + n1, 1 + n2, n3⟩, b6, rfl, ?_, ⟨⟨1 + n1, 1 + n2, n3⟩, ⟨(by omega : 1 ≤ 1 + n1), (by omega : 1 + n1 ≤ 10), (by omega : 1 ≤ 1 + n2), (by omega : 1 + n2 ≤ 10), (by omega : n3 ≤ 100)⟩, rfl⟩, rfl⟩
      have e2 : fCallB F__law_take (fCons (fVar 1) (fCons (fC (.int 4)) fNil)) (eL ns o2 o3 o4 o5 o6 o7 o8 o9 o10 o11 o12 o13 o14 o15 o16 o17 (some d) o19 o20 o21 o22 o23 o24 o25 o26) (BH cs b3 (rest ++ t)) = _ := e2
      have e3 : fCallB F__law_take (fCons (fVar 1) (fCons (fC (.int 4)) fNil)) (eL ns o2 o3 o4 o5 o6 o7 o8 o9 o10 o11 o12 o13 o14 o15 o16 o17 (some d) o19 o20 o21 o22 o23 o24 o25 o26) (BH cs b4 (rest ++ t)) = _ := e3
      have e4 : fCallB F__law_take (fCons (fVar 1) (fCons (fC (.int 9)) fNil)) (eL ns o2 o3 o4 o5 o6 o7 o8 o9 o10 o11 o12 o13 o14 o15 o16 o17 (some d) o19 o20 o21 o22 o23 o24 o25 o26) (BH cs b5 (rest ++ t)) = _ := e4
      unfold fe_law_3 fTmp
      simp (decide := true) only [fTup, fCons, fOp2, fC, bnd_ok, e2, e3, e4, addD, a1, a2, fNil, List.length_cons, List.length_nil, if_true]
      exact (frm_BH cs).tmp' rfl (by rw [List.all_append, hr, ht]; rfl))
  have hl : ys.length = v + 1 := by rw [← hy.length_eq, range_len]
  obtain ⟨l, h2, rfl⟩ : ∃ l : List Off, (∀ o ∈ l, o.Ok) ∧ ys = l.map Off.d := by
    have h := Frm.ok_all hy
    clear q hy hl
    induction ys with
    | nil => exact ⟨[], (fun o m => by cases m), rfl⟩
    | cons y r ih =>
      obtain ⟨_, _, o, ho, rfl⟩ := h y List.mem_cons_self
      obtain ⟨l, hl, rfl⟩ := ih fun x m => h x (List.mem_cons_of_mem _ m)
      exact ⟨o :: l, (fun x m => by rcases List.mem_cons.mp m with z | z; exact z ▸ ho; exact hl x z), rfl⟩
  rw [List.length_map] at hl
  refine ⟨l, b2, by omega, (by intro z; rw [z] at hl; simp at hl), h2, ?_⟩
  have hp : purs (l.map Off.d) = true := purs_of fun d m => by obtain ⟨o, _, rfl⟩ := List.mem_map.mp m; rfl
  unfold fTmp
  simp only [fCB, fCons, q, bnd_ok, fNil, tupleD, lof_lst]
  exact (frm_BH cs).tmp' (by rw [pur_tup]; exact hp) hr
theorem used_ev (l : List Nat) (hl : l.length ≤ 4) (o : Off) (k : o.Ok) (ns : List Int) (H : Hs) (hw : WF H) (o2 o3 o4 o5 o6 o7 o8 o9 o10 o11 o12 o13 o14 o15 o16 o17 o18 o19 o20 o21 o22 o23 o24 o25 o26 : Option D) :
    fVal (fLc fi_law_5 (gN 26) fYes fe_law_4 [26]) (eL ns o2 o3 o4 o5 o6 o7 o8 o9 o10 o11 o12 o13 o14 o15 o16 (some (.tup (cntD l))) o18 o19 o20 o21 (some (.int (o.w : Nat))) (some (.int (o.t : Nat))) o24 o25 o26) H = .ok (.lst (usedD l (o.w * o.t))) H := by
  have z1 := Off.z1 k
  have z2 := Off.z2 k
  have q := val_lm (fi := fi_law_5) (fg := gN 26) (fe := fe_law_4) (vs := [26]) (env := (eL ns o2 o3 o4 o5 o6 o7 o8 o9 o10 o11 o12 o13 o14 o15 o16 (some (.tup (cntD l))) o18 o19 o20 o21 (some (.int (o.w : Nat))) (some (.int (o.t : Nat))) o24 o25 o26)) (h0 := H) (l := cntD l) (gd := []) (fun d => match d with | .int i => .int (upN i.toNat (o.w * o.t) : Nat) | _ => .non) hw (by unfold fi_law_5; simp only [fVar, fC, fOp2, fUn, fNil, fCons, fTup, fLst, fTest, fAnd, fOr, fNot, fAndV, fOrV, fNotV, fIf, fCB, fNo, fSo, fSl, fTmp, fTmpB, fBM, fM1, fAsg, fDrop, fRet, fRetN, fIfS, fPar, fPar3, fAug, fAugL, fNext, fBreak, fCont, gN, gT, gConsF, gNilF, gS, fYes, fTru, fNewB, fIter, fRng1, fRng2, bnd_ok, tmpR, tmpB, lof, own, seqOf, srcOf, addD, subD, fdivD, modD, powD, mulD, negD, ltD, leD, gtD, geD, ixD, slD, lenD, absD, PF.intD, max2D, min2D, listD, tupleD, zipD, iaddD, appendD, extendD, popD, joinD, truD, tyD, isND, notND, D.isNon, List.getElem?_cons_zero, List.getElem?_cons_succ, List.set_cons_zero, List.set_cons_succ, List.length_cons, List.length_nil, List.cons_append, List.nil_append, List.append_nil, List.take_succ_cons, List.take_zero, List.take_nil, List.all_cons, List.all_nil, Bool.and_true, Bool.true_and, Bool.and_self, if_true, if_false, Bool.false_eq_true, Nat.reduceAdd, Nat.zero_add, Nat.reduceLeDiff, Nat.reduceLT, ite_true, ite_false, reduceIte, List.map_cons, List.map_nil, List.replicate, List.length_append, List.getElem?_nil, Option.isSome_some, beq_self_eq_true]) (fun p m => by cases m) (by unfold cntD; rw [List.length_map]; omega) (fun d m h' _ => by
    obtain ⟨n, _, rfl⟩ := List.mem_map.mp m
    refine ⟨(eL ns o2 o3 o4 o5 o6 o7 o8 o9 o10 o11 o12 o13 o14 o15 o16 (some (.tup (cntD l))) o18 o19 o20 o21 (some (.int (o.w : Nat))) (some (.int (o.t : Nat))) o24 o25 (some (.int (n : Nat)))), rfl, ?_, rfl⟩
    have a0 : ((o.t : Int)).natAbs < 18446744073709551616 := by have := k.t2; omega
    have a1 : (o.w : Int) * (o.t : Int) = ((o.w * o.t : Nat) : Int) := by simp
    have a2 : ((o.w * o.t : Nat) : Int) ≠ 0 := by omega
    have a3 : (((o.w * o.t : Nat) : Int)).natAbs < 1073741824 := by omega
    have a4 := int1_div n (o.w * o.t) z1
    unfold fe_law_4
    simp only [fCB, fCons, fOp2, fVar, List.getElem?_cons_succ, List.getElem?_cons_zero, bnd_ok, mulD, a0, or_true, if_true, a1, addD, subD, fC, fdivD, a2, a3, ne_eq, not_false_iff, and_self, a4, fNil, PF.intD]
    rfl)
  rw [q]
  congr 2
  unfold cntD usedD
  rw [List.map_map]
  rfl

theorem offer_body (l : List Nat) (hl : l.length ≤ 4) (o : Off) (ok : o.Ok) (k : Nat) (acc : List D) (ha : acc.length < 16777216) (hn : nors acc = true) (ns cs : List Int) (b : Bn) (rest : Hs) (hr : rest.all obNor = true) (o2 o3 o4 o5 o6 o7 o8 o9 o10 o11 o12 o13 o14 o15 o16 o17 o18 o19 o20 o21 o22 o23 o24 o25 o26 : Option D) :
    fb_law_3 (eL ns o2 o3 o4 o5 o6 o7 o8 o9 o10 o11 o12 o13 o14 o15 o16 (some (.tup (cntD l))) o18 o19 (some (.ref (rest.length + 2))) (some (.int (k : Nat))) (some (.int (o.w : Nat))) (some (.int (o.t : Nat))) (some (.int (o.c : Nat))) o25 o26) (BH cs b (rest ++ [.lst acc])) = .ok (.nx (eL ns o2 o3 o4 o5 o6 o7 o8 o9 o10 o11 o12 o13 o14 o15 o16 (some (.tup (cntD l))) o18 o19 (some (.ref (rest.length + 2))) (some (.int (k : Nat))) (some (.int (o.w : Nat))) (some (.int (o.t : Nat))) (some (.int (o.c : Nat))) (some (.lst (usedD l (o.w * o.t)))) o26)) (BH cs b (rest ++ [.lst (acc ++ [.tup [.int ((o.c : Int) * sumU l (o.w * o.t)), .int (k : Nat)]])])) := by
  have hw : WF (BH cs b (rest ++ [.lst acc])) := BH_wf (by rw [List.all_append, hr]; simp [obNor, hn])
  have hg : (BH cs b (rest ++ [.lst acc]))[rest.length + 2]? = some (.lst acc) := mem_BH _ []
  have hset : ∀ x, (BH cs b (rest ++ [.lst acc])).set (rest.length + 2) (.lst x) = BH cs b (rest ++ [.lst x]) := fun x => by
    simp only [BH, List.set_cons_succ]
    rw [List.set_append_right _ _ (Nat.le_refl _)]; simp
  generalize BH cs b (rest ++ [.lst acc]) = H at hg hw hset ⊢
  have hz := used_inz l (o.w * o.t)
  have hul : (usedD l (o.w * o.t)).length = l.length := by simp [usedD]
  unfold fb_law_3
  refine (seqE (e := (eL ns o2 o3 o4 o5 o6 o7 o8 o9 o10 o11 o12 o13 o14 o15 o16 (some (.tup (cntD l))) o18 o19 (some (.ref (rest.length + 2))) (some (.int (k : Nat))) (some (.int (o.w : Nat))) (some (.int (o.t : Nat))) (some (.int (o.c : Nat))) (some (.lst (usedD l (o.w * o.t)))) o26)) (h1 := H) ?_).trans ?_
  · simp only [fAsg, used_ev l hl o ok ns H hw o2 o3 o4 o5 o6 o7 o8 o9 o10 o11 o12 o13 o14 o15 o16 o17 o18 o19 (some (.ref (rest.length + 2))) (some (.int (k : Nat))) o22 o23 (some (.int (o.c : Nat))) o25 o26, bnd_ok]; rfl
  refine (seqE (e := (eL ns o2 o3 o4 o5 o6 o7 o8 o9 o10 o11 o12 o13 o14 o15 o16 (some (.tup (cntD l))) o18 o19 (some (.ref (rest.length + 2))) (some (.int (k : Nat))) (some (.int (o.w : Nat))) (some (.int (o.t : Nat))) (some (.int (o.c : Nat))) (some (.lst (usedD l (o.w * o.t)))) o26)) (h1 := H) ?_).trans ?_
  · refine (ifF (h1 := H) ?_).trans rfl
    have c1 : fVal (fLc fi_law_6 (gN 26) fYes fe_law_5 [26]) (eL ns o2 o3 o4 o5 o6 o7 o8 o9 o10 o11 o12 o13 o14 o15 o16 (some (.tup (cntD l))) o18 o19 (some (.ref (rest.length + 2))) (some (.int (k : Nat))) (some (.int (o.w : Nat))) (some (.int (o.t : Nat))) (some (.int (o.c : Nat))) (some (.lst (usedD l (o.w * o.t)))) o26) H = .ok (.lst (usedD l (o.w * o.t))) H :=
      needed_lc l (by omega) o ok hw (by unfold fi_law_6; simp only [fVar, fC, fOp2, fUn, fNil, fCons, fTup, fLst, fTest, fAnd, fOr, fNot, fAndV, fOrV, fNotV, fIf, fCB, fNo, fSo, fSl, fTmp, fTmpB, fBM, fM1, fAsg, fDrop, fRet, fRetN, fIfS, fPar, fPar3, fAug, fAugL, fNext, fBreak, fCont, gN, gT, gConsF, gNilF, gS, fYes, fTru, fNewB, fIter, fRng1, fRng2, bnd_ok, tmpR, tmpB, lof, own, seqOf, srcOf, addD, subD, fdivD, modD, powD, mulD, negD, ltD, leD, gtD, geD, ixD, slD, lenD, absD, PF.intD, max2D, min2D, listD, tupleD, zipD, iaddD, appendD, extendD, popD, joinD, truD, tyD, isND, notND, D.isNon, List.getElem?_cons_zero, List.getElem?_cons_succ, List.set_cons_zero, List.set_cons_succ, List.length_cons, List.length_nil, List.cons_append, List.nil_append, List.append_nil, List.take_succ_cons, List.take_zero, List.take_nil, List.all_cons, List.all_nil, Bool.and_true, Bool.true_and, Bool.and_self, if_true, if_false, Bool.false_eq_true, Nat.reduceAdd, Nat.zero_add, Nat.reduceLeDiff, Nat.reduceLT, ite_true, ite_false, reduceIte, List.map_cons, List.map_nil, List.replicate, List.length_append, List.getElem?_nil, Option.isSome_some, beq_self_eq_true]) (fun x => ⟨_, rfl, rfl, rfl, rfl, fun _ => rfl⟩)
    have c3 := alkV (env := (eL ns o2 o3 o4 o5 o6 o7 o8 o9 o10 o11 o12 o13 o14 o15 o16 (some (.tup (cntD l))) o18 o19 (some (.ref (rest.length + 2))) (some (.int (k : Nat))) (some (.int (o.w : Nat))) (some (.int (o.t : Nat))) (some (.int (o.c : Nat))) (some (.lst (usedD l (o.w * o.t)))) o26)) alike_ev (fa := fCons (fVal (fLc fi_law_6 (gN 26) fYes fe_law_5 [26])) (fCons (fVar 25) fNil)) (x := .lst (usedD l (o.w * o.t))) (h := H) (by
      simp only [fCons, c1, fVar, List.getElem?_cons_succ, List.getElem?_cons_zero, bnd_ok, fNil]) (by rw [nor_lst]; exact nors_of_purs _ (used_pur _ _)) (by
        have h1 := dszs_le (n := 1) (l := usedD l (o.w * o.t)) fun d m => by
          obtain ⟨k, _, rfl⟩ := List.mem_map.mp m
          simp [dsz]
        rw [hul] at h1
        rw [dsz]; omega)
    simp only [fTmpB, fNot, tru_of c3, bnd_ok, Bool.not_true, PF.tmpB_id]
  · have a0 : ((o.c : Int)).natAbs < 18446744073709551616 := by have := ok.c2; omega
    simp (decide := true) only [fDrop, fBM, fVar, List.getElem?_cons_succ, List.getElem?_cons_zero, bnd_ok, tyD, lof, hg, fCons, fTup, fOp2, fCB, fNil, sumD, hz, mulD, a0, true_or, if_true, List.length_cons, List.length_nil, appendD, own, ha, hset, Option.isSome_some, beq_self_eq_true, Bool.and_self]
    rfl
theorem enum_costs (its : List D) (l : List Nat) (hl : l.length ≤ 4) (ns cs : List Int) (b : Bn) (rest : Hs) (hr : rest.all obNor = true) (o2 o3 o4 o5 o6 o7 o8 o9 o10 o11 o12 o13 o14 o15 o16 o17 o18 o19 o20 o21 o22 o23 o24 o25 o26 : Option D) : ∀ (os : List Off) (k : Nat) (acc : List D), (∀ o ∈ os, o.Ok) → acc.length + os.length ≤ 1000 → nors acc = true → ∀ (o21 o22 o23 o24 o25 : Option D), ∃ p21 p22 p23 p24 p25,
    forN (gT 2 (gConsF (gN 21) (gConsF (gT 3 (gConsF (gN 22) (gConsF (gN 23) (gConsF (gN 24) gNilF)))) gNilF))) fb_law_3 ⟨its, []⟩ (enumL k (os.map Off.d)) (eL ns o2 o3 o4 o5 o6 o7 o8 o9 o10 o11 o12 o13 o14 o15 o16 (some (.tup (cntD l))) o18 o19 (some (.ref (rest.length + 2))) o21 o22 o23 o24 o25 o26) (BH cs b (rest ++ [.lst acc]))
      = .ok (.nx (eL ns o2 o3 o4 o5 o6 o7 o8 o9 o10 o11 o12 o13 o14 o15 o16 (some (.tup (cntD l))) o18 o19 (some (.ref (rest.length + 2))) p21 p22 p23 p24 p25 o26)) (BH cs b (rest ++ [.lst (acc ++ costL l k os)]))
  | [], k, acc, _, _, _, o21, o22, o23, o24, o25 => ⟨o21, o22, o23, o24, o25, by
    rw [List.map_nil, enumL]
    unfold forN
    rw [if_pos (good_nil _ _), costL, List.append_nil]⟩
  | o :: os, k, acc, h, hlen, hn, o21, o22, o23, o24, o25 => by
    have ok := h o List.mem_cons_self
    simp only [List.length_cons] at hlen
    have q := offer_body l hl o ok k acc (by omega) hn ns cs b rest hr o2 o3 o4 o5 o6 o7 o8 o9 o10 o11 o12 o13 o14 o15 o16 o17 o18 o19 o20 o21 o22 o23 o24 o25 o26
    obtain ⟨p21, p22, p23, p24, p25, z⟩ := enum_costs its l hl ns cs b rest hr o2 o3 o4 o5 o6 o7 o8 o9 o10 o11 o12 o13 o14 o15 o16 o17 o18 o19 o20 o21 o22 o23 o24 o25 o26 os (k + 1) (acc ++ [.tup [.int ((o.c : Int) * sumU l (o.w * o.t)), .int (k : Nat)]]) (fun x m => h x (List.mem_cons_of_mem _ m)) (by rw [List.length_append]; simp; omega) (by rw [nors_append, hn]; rfl) (some (.int (k : Nat))) (some (.int (o.w : Nat))) (some (.int (o.t : Nat))) (some (.int (o.c : Nat))) (some (.lst (usedD l (o.w * o.t))))
    refine ⟨p21, p22, p23, p24, p25, ?_⟩
    rw [List.map_cons, enumL]
    unfold forN
    rw [if_pos (good_nil _ _)]
    have g : (gT 2 (gConsF (gN 21) (gConsF (gT 3 (gConsF (gN 22) (gConsF (gN 23) (gConsF (gN 24) gNilF)))) gNilF))) (.tup [.int (k : Nat), o.d]) (eL ns o2 o3 o4 o5 o6 o7 o8 o9 o10 o11 o12 o13 o14 o15 o16 (some (.tup (cntD l))) o18 o19 (some (.ref (rest.length + 2))) o21 o22 o23 o24 o25 o26) (BH cs b (rest ++ [.lst acc])) = .ok (eL ns o2 o3 o4 o5 o6 o7 o8 o9 o10 o11 o12 o13 o14 o15 o16 (some (.tup (cntD l))) o18 o19 (some (.ref (rest.length + 2))) (some (.int (k : Nat))) (some (.int (o.w : Nat))) (some (.int (o.t : Nat))) (some (.int (o.c : Nat))) o25 o26) (BH cs b (rest ++ [.lst acc])) := rfl
    rw [g]
    simp only [bnd_ok]
    rw [q]
    simp only [bnd_ok]
    rw [costL]
    rw [List.append_assoc] at z
    exact z
def costF (l : List Nat) (d : D) : D := match d with
  | .tup [.int k, .tup [.int a, .int t, .int c]] => .tup [.int (c * sumU l (a.toNat * t.toNat)), .int k]
  | _ => .non
theorem enum_map (l : List Nat) : ∀ (os : List Off) (k : Nat), (enumL k (os.map Off.d)).map (costF l) = costL l k os
  | [], _ => rfl
  | o :: os, k => by
    rw [List.map_cons, enumL, List.map_cons, enum_map l os (k + 1), costL]
    rfl
theorem least_ev (l : List Nat) (hl : l.length ≤ 4) (os : List Off) (h5 : os.length ≤ 5) (h : ∀ o ∈ os, o.Ok) (y : D) (ys : List D) (e : costL l 0 os = y :: ys) : F_least_sheet [.tup (cntD l), .tup (os.map Off.d)] = .val (best dLt y ys) := by
  have hc : fVal (fLc fi_least_sheet_1 (gT 2 (gConsF (gN 2) (gConsF (gN 3) gNilF))) fYes fe_least_sheet_1 [2, 3]) [some (.tup (cntD l)), some (.tup (os.map Off.d)), none, none] [] = .ok (.lst (y :: ys)) [] := by
    have q := val_lm (fi := fi_least_sheet_1) (fg := gT 2 (gConsF (gN 2) (gConsF (gN 3) gNilF))) (fe := fe_least_sheet_1) (vs := [2, 3]) (env := [some (.tup (cntD l)), some (.tup (os.map Off.d)), none, none]) (h0 := []) (l := enumL 0 (os.map Off.d)) (gd := []) (costF l) rfl (by unfold fi_least_sheet_1; simp only [fEnum, fCons, fVar, fNil, List.getElem?_cons_succ, List.getElem?_cons_zero, bnd_ok, bs]) (fun p m => by cases m) (by rw [enumL_len, List.length_map]; omega) (fun d m h' _ => by
      obtain ⟨k, x, hx, rfl⟩ := mem_enum m
      rw [List.getElem?_map] at hx
      obtain ⟨o, ho, rfl⟩ := Option.map_eq_some_iff.mp hx
      have ok := h o (List.mem_of_getElem? ho)
      have c := cost_ev l (by omega) o ok
      refine ⟨[some (.tup (cntD l)), some (.tup (os.map Off.d)), some (.int ((0 + k : Nat) : Int)), some o.d], rfl, ?_, rfl⟩
      have c' : fCall F_cost_of (fCons (fVar 0) (fCons (fVar 3) fNil)) [some (.tup (cntD l)), some (.tup (os.map Off.d)), some (.int ((0 + k : Nat) : Int)), some o.d] h' = .ok (.int ((o.c : Int) * sumU l (o.w * o.t))) h' := call_val (ds := [.tup (cntD l), o.d]) rfl (dall_nor _ _ (by rw [nors_cons, nor_tup, nors_of_purs _ (cnt_pur l)]; rfl)) c
      unfold fe_least_sheet_1
      simp (decide := true) only [fTmp, fTup, fCons, c', bnd_ok, fVar, List.getElem?_cons_succ, List.getElem?_cons_zero, fNil, List.length_cons, List.length_nil, if_true]
      exact tmpR_id rfl)
    rw [q, enum_map, e]
  have hf := cost_form l os 0
  rw [e] at hf
  have hm := min_pairs y ys hf (.lst (y :: ys)) [] rfl
  obtain ⟨a, b, hb⟩ := hf _ (best_mem ys y)
  have hp : (best dLt y ys).pur = true := by rw [hb]; rfl
  unfold F_least_sheet runP fs_least_sheet
  simp (decide := true) only [fRet, List.map_cons, List.map_nil, List.replicate, List.length_cons, List.length_nil, Nat.reduceAdd, Nat.zero_add, Nat.reduceSub, List.cons_append, List.nil_append, fCB, fCons, hc, bnd_ok, fNil, hm, toP, hp, if_true, noE]

theorem chk_c (l : List Nat) (hl : l.length ≤ 4) (os : List Off) (h5 : os.length ≤ 5) (hne : os ≠ []) (h : ∀ o ∈ os, o.Ok) (ns : List Int) (H : Hs) (rest : Hs) (hg : H[rest.length + 2]? = some (.lst (costL l 0 os))) (o2 o3 o4 o5 o6 o7 o8 o9 o10 o11 o12 o13 o14 o15 o16 o17 o18 o19 o20 o21 o22 o23 o24 o25 o26 : Option D) :
    fTmpB (fNot (fTru (fCall F__law_alike (fCons (fCall F_least_sheet (fCons (fVar 17) (fCons (fVar 19) fNil))) (fCons (fCB minLD (fCons (fVar 20) fNil)) fNil))))) (eL ns o2 o3 o4 o5 o6 o7 o8 o9 o10 o11 o12 o13 o14 o15 o16 (some (.tup (cntD l))) o18 (some (.tup (os.map Off.d))) (some (.ref (rest.length + 2))) o21 o22 o23 o24 o25 o26) H = .ok false H := by
  obtain ⟨y, ys, e⟩ : ∃ y ys, costL l 0 os = y :: ys := by
    cases os with
    | nil => exact absurd rfl hne
    | cons o r => exact ⟨_, _, rfl⟩
  have q := least_ev l hl os h5 h y ys e
  have hf := cost_form l os 0
  rw [e] at hf hg
  have hm := min_pairs y ys hf (.ref (rest.length + 2)) H (by simp only [sqof, lof, hg])
  obtain ⟨a, b, hb⟩ := hf _ (best_mem ys y)
  have hp : purs (os.map Off.d) = true := purs_of fun d m => by obtain ⟨o, _, rfl⟩ := List.mem_map.mp m; rfl
  have c1 : fCall F_least_sheet (fCons (fVar 17) (fCons (fVar 19) fNil)) (eL ns o2 o3 o4 o5 o6 o7 o8 o9 o10 o11 o12 o13 o14 o15 o16 (some (.tup (cntD l))) o18 (some (.tup (os.map Off.d))) (some (.ref (rest.length + 2))) o21 o22 o23 o24 o25 o26) H = .ok (best dLt y ys) H := call_val (ds := [.tup (cntD l), .tup (os.map Off.d)]) rfl (dall_nor _ _ (by rw [nors_cons, nors_cons, nor_tup, nor_tup, nors_of_purs _ (cnt_pur l), nors_of_purs _ hp]; rfl)) q
  have c3 := alkV (env := (eL ns o2 o3 o4 o5 o6 o7 o8 o9 o10 o11 o12 o13 o14 o15 o16 (some (.tup (cntD l))) o18 (some (.tup (os.map Off.d))) (some (.ref (rest.length + 2))) o21 o22 o23 o24 o25 o26)) alike_ev (fa := fCons (fCall F_least_sheet (fCons (fVar 17) (fCons (fVar 19) fNil))) (fCons (fCB minLD (fCons (fVar 20) fNil)) fNil)) (x := best dLt y ys) (h := H) (by
    simp only [fCons, c1, fCB, fVar, List.getElem?_cons_succ, List.getElem?_cons_zero, bnd_ok, fNil, hm]) (by rw [hb]; rfl) (by rw [hb]; simp [dsz, dszs])
  simp only [fTmpB, fNot, tru_of c3, bnd_ok, Bool.not_true, PF.tmpB_id]

theorem tmpL_nil (cs : List Int) (b : Bn) (rest : Hs) (hr : rest.all obNor = true) (e : En) : fTmp (fLst fNil) e (BH cs b rest) = .ok (.ref (rest.length + 2)) (BH cs b (rest ++ [.lst []])) := by
  have h := tmp_one (h := BH cs b rest) (junk := []) (o := .lst []) (m := rest.length + 2) (by simp [BH]) (BH_wf hr) rfl
  rw [List.append_nil] at h
  have e1 : fLst fNil e (BH cs b rest) = .ok (.ref (rest.length + 2)) (BH cs b rest ++ [.lst []]) := by
    simp (decide := true) only [fLst, fNil, bnd_ok, List.length_nil, if_true, BH, List.length_cons]
  unfold fTmp
  rw [e1, h]
  simp only [BH, List.length_cons, List.cons_append]
theorem turn_ev (d : D) (ns cs : List Int) (hc : cs.length ≤ 63) (b : Bn) (rest : Hs) (hr : rest.all obNor = true) (o3 o4 o5 o6 o7 o8 o9 o10 o11 o12 o13 o14 o15 o16 o17 o18 o19 o20 o21 o22 o23 o24 o25 o26 : Option D) : ∃ b' rest' q3 q4 q5 q6 q7 q8 q9 q10 q11 q12 q13 q14 q15 q16 q17 q18 q19 q20 q21 q22 q23 q24 q25 q26, rest'.all obNor = true ∧
    fb_law_4 (eL ns (some d) o3 o4 o5 o6 o7 o8 o9 o10 o11 o12 o13 o14 o15 o16 o17 o18 o19 o20 o21 o22 o23 o24 o25 o26) (BH cs b rest) = .ok (.nx (eL ns (some d) q3 q4 q5 q6 q7 q8 q9 q10 q11 q12 q13 q14 q15 q16 q17 q18 q19 q20 q21 q22 q23 q24 q25 q26)) (BH cs b' rest') := by
  obtain ⟨a1, b1, m1, e1⟩ := tk hc 4 (by decide) (by decide) (eL ns (some d) o3 o4 o5 o6 o7 o8 o9 o10 o11 o12 o13 o14 o15 o16 o17 o18 o19 o20 o21 o22 o23 o24 o25 o26) rfl b rest
  obtain ⟨a2, b2, m2, e2⟩ := tk hc 3 (by decide) (by decide) (eL ns (some d) o3 o4 o5 o6 o7 o8 o9 o10 o11 o12 o13 o14 o15 o16 o17 o18 o19 o20 o21 o22 o23 o24 o25 o26) rfl b1 rest
  obtain ⟨a3, b3, m3, e3⟩ := tk hc 51 (by decide) (by decide) (eL ns (some d) o3 o4 o5 o6 o7 o8 o9 o10 o11 o12 o13 o14 o15 o16 o17 o18 o19 o20 o21 o22 o23 o24 o25 o26) rfl b2 rest
  obtain ⟨a4, b4, m4, e4⟩ := tk hc 5 (by decide) (by decide) (eL ns (some d) o3 o4 o5 o6 o7 o8 o9 o10 o11 o12 o13 o14 o15 o16 o17 o18 o19 o20 o21 o22 o23 o24 o25 o26) rfl b3 rest
  have e1 : fCallB F__law_take (fCons (fVar 1) (fCons (fC (.int 4)) fNil)) (eL ns (some d) o3 o4 o5 o6 o7 o8 o9 o10 o11 o12 o13 o14 o15 o16 o17 o18 o19 o20 o21 o22 o23 o24 o25 o26) (BH cs b rest) = _ := e1
  have e2 : fCallB F__law_take (fCons (fVar 1) (fCons (fC (.int 3)) fNil)) (eL ns (some d) o3 o4 o5 o6 o7 o8 o9 o10 o11 o12 o13 o14 o15 o16 o17 o18 o19 o20 o21 o22 o23 o24 o25 o26) (BH cs b1 rest) = _ := e2
  have e3 : fCallB F__law_take (fCons (fVar 1) (fCons (fC (.int 51)) fNil)) (eL ns (some d) o3 o4 o5 o6 o7 o8 o9 o10 o11 o12 o13 o14 o15 o16 o17 o18 o19 o20 o21 o22 o23 o24 o25 o26) (BH cs b2 rest) = _ := e3
  have e4 : fCallB F__law_take (fCons (fVar 1) (fCons (fC (.int 5)) fNil)) (eL ns (some d) o3 o4 o5 o6 o7 o8 o9 o10 o11 o12 o13 o14 o15 o16 o17 o18 o19 o20 o21 o22 o23 o24 o25 o26) (BH cs b3 rest) = _ := e4
  have i1 : (1 : Int) + (a1 : Int) = ((1 + a1 : Nat) : Int) := by omega
  have i2 : (1 : Int) + (a2 : Int) = ((1 + a2 : Nat) : Int) := by omega
  have i4 : (1 : Int) + (a4 : Int) = ((1 + a4 : Nat) : Int) := by omega
  have z1 : 1 ≤ (1 + a1) * (1 + a2) := Nat.mul_le_mul (show 1 ≤ 1 + a1 by omega) (show 1 ≤ 1 + a2 by omega)
  have z2 : (1 + a1) * (1 + a2) ≤ 4 * 3 := Nat.mul_le_mul (by omega) (by omega)
  obtain ⟨s, hs⟩ : ∃ s, s = (Stk.mk a3 ((1 + a1) * (1 + a2)) (1 + a4)) := ⟨_, rfl⟩
  have f1 : s.many = a3 := by rw [hs]
  have f2 : s.size = (1 + a1) * (1 + a2) := by rw [hs]
  have f3 : s.high = 1 + a4 := by rw [hs]
  have o : s.Ok := ⟨by rw [f1]; omega, by rw [f2]; exact z1, by rw [f2]; omega, by rw [f3]; omega, by rw [f3]; omega⟩
  have w4 : WF (BH cs b4 (rest ++ [.lst s.its])) := BH_wf (by rw [List.all_append, hr]; simp [obNor, nors_of_purs _ s.its_pur])
  have g4 : (BH cs b4 (rest ++ [.lst s.its]))[rest.length + 2]? = some (.lst s.its) := mem_BH _ []
  have hr2 : (rest ++ [Ob.lst s.its]).all obNor = true := by rw [List.all_append, hr]; simp [obNor, nors_of_purs _ s.its_pur]
  have dl := due_loop s o ns cs b4 rest (some d) (some (.int (1 + a1 : Nat))) (some (.int (1 + a2 : Nat))) (some (.int s.many)) (some (.int s.high)) (some (.int s.size)) (some (.int (Stk.sh s))) (some (.ref (rest.length + 2))) (some (.int 0)) o11 o12 o13 o14 o15 o16 o17 o18 o19 o20 o21 o22 o23 o24 o25 o26 s.K 0 (by omega)
  have dl := fWhile_eq dl (fun z => z)
  obtain ⟨p13, p14, p15, p16, fl⟩ := stacks_for s o ns cs b4 rest hr (some d) (some (.int (1 + a1 : Nat))) (some (.int (1 + a2 : Nat))) (some (.int s.many)) (some (.int s.high)) (some (.int s.size)) (some (.int (Stk.sh s))) (some (.ref (rest.length + 2))) (some (.int (s.K * s.high : Nat))) (some (.tup (s.all s.K))) (some (.int 0)) o13 o14 o15 o16 o17 o18 o19 o20 o21 o22 o23 o24 o25 o26
  obtain ⟨l, b5, hl, ce⟩ := counts_ev ns cs hc b4 (rest ++ [.lst s.its]) hr2 (some d) (some (.int (1 + a1 : Nat))) (some (.int (1 + a2 : Nat))) (some (.int s.many)) (some (.int s.high)) (some (.int s.size)) (some (.int (Stk.sh s))) (some (.ref (rest.length + 2))) (some (.int (s.K * s.high : Nat))) (some (.tup (s.all s.K))) (some (.int s.many)) p13 p14 p15 p16 o17 o18 o19 o20 o21 o22 o23 o24 o25 o26
  obtain ⟨os, b6, ho, hne, hok, oe⟩ := offers_ev ns cs hc b5 (rest ++ [.lst s.its]) hr2 (some d) (some (.int (1 + a1 : Nat))) (some (.int (1 + a2 : Nat))) (some (.int s.many)) (some (.int s.high)) (some (.int s.size)) (some (.int (Stk.sh s))) (some (.ref (rest.length + 2))) (some (.int (s.K * s.high : Nat))) (some (.tup (s.all s.K))) (some (.int s.many)) p13 p14 p15 p16 (some (.tup (cntD l))) o18 o19 o20 o21 o22 o23 o24 o25 o26
  obtain ⟨p21, p22, p23, p24, p25, xl⟩ := enum_costs (enumL 0 (os.map Off.d)) l hl ns cs b6 (rest ++ [.lst s.its]) hr2 (some d) (some (.int (1 + a1 : Nat))) (some (.int (1 + a2 : Nat))) (some (.int s.many)) (some (.int s.high)) (some (.int s.size)) (some (.int (Stk.sh s))) (some (.ref (rest.length + 2))) (some (.int (s.K * s.high : Nat))) (some (.tup (s.all s.K))) (some (.int s.many)) p13 p14 p15 p16 (some (.tup (cntD l))) o18 (some (.tup (os.map Off.d))) (some (.ref (rest.length + 3))) o21 o22 o23 o24 o25 o26 os 0 [] hok (by simp; omega) rfl o21 o22 o23 o24 o25
  have g5 : (BH cs b6 (rest ++ [.lst s.its] ++ [.lst (costL l 0 os)]))[(rest ++ [Ob.lst s.its]).length + 2]? = some (.lst (costL l 0 os)) := mem_BH _ []
  have ck := chk_c l hl os ho hne hok ns (BH cs b6 (rest ++ [.lst s.its] ++ [.lst (costL l 0 os)])) (rest ++ [.lst s.its]) g5 (some d) (some (.int (1 + a1 : Nat))) (some (.int (1 + a2 : Nat))) (some (.int s.many)) (some (.int s.high)) (some (.int s.size)) (some (.int (Stk.sh s))) (some (.ref (rest.length + 2))) (some (.int (s.K * s.high : Nat))) (some (.tup (s.all s.K))) (some (.int s.many)) p13 p14 p15 p16 (some (.tup (cntD l))) o18 (some (.tup (os.map Off.d))) (some (.ref (rest.length + 3))) p21 p22 p23 p24 p25 o26
  have ca := chk_a s o (1 + a1) (1 + a2) (by omega) f2 ns (BH cs b4 (rest ++ [.lst s.its])) w4 rest g4 (some d) (some (.int (1 + a1 : Nat))) (some (.int (1 + a2 : Nat))) (some (.int s.many)) (some (.int s.high)) (some (.int s.size)) (some (.int (Stk.sh s))) (some (.ref (rest.length + 2))) (some (.int (s.K * s.high : Nat))) (some (.tup (s.all s.K))) o12 o13 o14 o15 o16 o17 o18 o19 o20 o21 o22 o23 o24 o25 o26
  have cb := chk_b s o (1 + a1) (1 + a2) (by omega) (by omega) (by omega) (by omega) f2 ns (BH cs b4 (rest ++ [.lst s.its])) (some d) (some (.int (1 + a1 : Nat))) (some (.int (1 + a2 : Nat))) (some (.int s.many)) (some (.int s.high)) (some (.int s.size)) (some (.int (Stk.sh s))) (some (.ref (rest.length + 2))) (some (.int (s.K * s.high : Nat))) (some (.tup (s.all s.K))) (some (.int s.many)) p13 p14 p15 p16 o17 o18 o19 o20 o21 o22 o23 o24 o25 o26
  have hl3 : (rest ++ [Ob.lst s.its]).length + 2 = rest.length + 3 := by simp
  rw [hl3] at xl ck
  refine ⟨b6, rest ++ [.lst s.its] ++ [.lst (costL l 0 os)], some (.int (1 + a1 : Nat)), some (.int (1 + a2 : Nat)), some (.int s.many), some (.int s.high), some (.int s.size), some (.int (Stk.sh s)), some (.ref (rest.length + 2)), some (.int (s.K * s.high : Nat)), some (.tup (s.all s.K)), some (.int s.many), p13, p14, p15, p16, some (.tup (cntD l)), o18, some (.tup (os.map Off.d)), some (.ref (rest.length + 3)), p21, p22, p23, p24, p25, o26, ?_, ?_⟩
  rotate_left 1
  · unfold fb_law_4
    refine (seqE (e := (eL ns (some d) (some (.int (1 + a1 : Nat))) (some (.int (1 + a2 : Nat))) (some (.int s.many)) (some (.int s.high)) o7 o8 o9 o10 o11 o12 o13 o14 o15 o16 o17 o18 o19 o20 o21 o22 o23 o24 o25 o26)) (h1 := BH cs b4 rest) ?_).trans ?_
    · have t : fTmp (fTup (fCons (fOp2 addD (fC (.int 1)) (fCallB F__law_take (fCons (fVar 1) (fCons (fC (.int 4)) fNil)))) (fCons (fOp2 addD (fC (.int 1)) (fCallB F__law_take (fCons (fVar 1) (fCons (fC (.int 3)) fNil)))) (fCons (fCallB F__law_take (fCons (fVar 1) (fCons (fC (.int 51)) fNil))) (fCons (fOp2 addD (fC (.int 1)) (fCallB F__law_take (fCons (fVar 1) (fCons (fC (.int 5)) fNil)))) fNil))))) (eL ns (some d) o3 o4 o5 o6 o7 o8 o9 o10 o11 o12 o13 o14 o15 o16 o17 o18 o19 o20 o21 o22 o23 o24 o25 o26) (BH cs b rest) = .ok (.tup [.int (1 + a1 : Nat), .int (1 + a2 : Nat), .int a3, .int (1 + a4 : Nat)]) (BH cs b4 rest) := by
        simp (decide := true) only [fTmp, fTup, fCons, fOp2, fC, bnd_ok, e1, e2, e3, e4, addD, i1, i2, i4, fNil, List.length_cons, List.length_nil, if_true]
        exact (frm_BH cs).tmp' rfl hr
      unfold fAsg
      rw [t, f1, f3]; rfl
    refine (seqE (e := (eL ns (some d) (some (.int (1 + a1 : Nat))) (some (.int (1 + a2 : Nat))) (some (.int s.many)) (some (.int s.high)) (some (.int s.size)) o8 o9 o10 o11 o12 o13 o14 o15 o16 o17 o18 o19 o20 o21 o22 o23 o24 o25 o26)) (h1 := BH cs b4 rest) ?_).trans ?_
    · have k0 : (((1 + a2 : Nat) : Int)).natAbs < 18446744073709551616 := by omega
      have k1 : ((1 + a1 : Nat) : Int) * ((1 + a2 : Nat) : Int) = (((1 + a1) * (1 + a2) : Nat) : Int) := by rw [Int.natCast_mul]
      simp only [fAsg, fOp2, fVar, List.getElem?_cons_succ, List.getElem?_cons_zero, bnd_ok, mulD, k0, or_true, if_true, k1, gN, List.set_cons_succ, List.set_cons_zero, f2]
    refine (seqE (e := (eL ns (some d) (some (.int (1 + a1 : Nat))) (some (.int (1 + a2 : Nat))) (some (.int s.many)) (some (.int s.high)) (some (.int s.size)) (some (.int (Stk.sh s))) o9 o10 o11 o12 o13 o14 o15 o16 o17 o18 o19 o20 o21 o22 o23 o24 o25 o26)) (h1 := BH cs b4 rest) ?_).trans ?_
    · have k0 := int1_div s.many s.size o.s1
      have k1 : (s.size : Int) ≠ 0 := by have := o.s1; omega
      have k2 : ((s.size : Int)).natAbs < 1073741824 := by have := o.s2; omega
      have k3 : (s.many + s.size - 1) / s.size = s.sh := rfl
      rw [k3] at k0
      simp only [fAsg, fCB, fCons, fOp2, fVar, List.getElem?_cons_succ, List.getElem?_cons_zero, bnd_ok, addD, subD, fC, fdivD, k1, k2, ne_eq, not_false_iff, and_self, if_true, k0, fNil, PF.intD, gN, List.set_cons_succ, List.set_cons_zero]
    refine (seqE (e := (eL ns (some d) (some (.int (1 + a1 : Nat))) (some (.int (1 + a2 : Nat))) (some (.int s.many)) (some (.int s.high)) (some (.int s.size)) (some (.int (Stk.sh s))) (some (.ref (rest.length + 2))) (some (.int 0)) o11 o12 o13 o14 o15 o16 o17 o18 o19 o20 o21 o22 o23 o24 o25 o26)) (h1 := BH cs b4 (rest ++ [.lst []])) ?_).trans ?_
    · simp (decide := true) only [fPar, fCons, fLst, fNil, bnd_ok, List.length_cons, List.length_nil, if_true, fC, List.set_cons_succ, List.set_cons_zero, BH, List.cons_append]
    refine (seqE (e := (eL ns (some d) (some (.int (1 + a1 : Nat))) (some (.int (1 + a2 : Nat))) (some (.int s.many)) (some (.int s.high)) (some (.int s.size)) (some (.int (Stk.sh s))) (some (.ref (rest.length + 2))) (some (.int (s.K * s.high : Nat))) o11 o12 o13 o14 o15 o16 o17 o18 o19 o20 o21 o22 o23 o24 o25 o26)) (h1 := BH cs b4 (rest ++ [.lst s.its])) ?_).trans ?_
    · rw [Nat.zero_mul] at dl; exact dl
    have q6 := stacked_ev s o (1 + a1) (1 + a2) f2 (by omega)
    refine (seqE (e := (eL ns (some d) (some (.int (1 + a1 : Nat))) (some (.int (1 + a2 : Nat))) (some (.int s.many)) (some (.int s.high)) (some (.int s.size)) (some (.int (Stk.sh s))) (some (.ref (rest.length + 2))) (some (.int (s.K * s.high : Nat))) (some (.tup (s.all s.K))) o12 o13 o14 o15 o16 o17 o18 o19 o20 o21 o22 o23 o24 o25 o26)) (h1 := BH cs b4 (rest ++ [.lst s.its])) ?_).trans ?_
    · have c : fCall F_stacked_order (fCons (fVar 5) (fCons (fVar 3) (fCons (fVar 4) (fCons (fVar 6) fNil)))) (eL ns (some d) (some (.int (1 + a1 : Nat))) (some (.int (1 + a2 : Nat))) (some (.int s.many)) (some (.int s.high)) (some (.int s.size)) (some (.int (Stk.sh s))) (some (.ref (rest.length + 2))) (some (.int (s.K * s.high : Nat))) o11 o12 o13 o14 o15 o16 o17 o18 o19 o20 o21 o22 o23 o24 o25 o26) (BH cs b4 (rest ++ [.lst s.its])) = .ok (.tup (s.all s.K)) (BH cs b4 (rest ++ [.lst s.its])) := call_val (ds := [.int s.many, .int (1 + a1 : Nat), .int (1 + a2 : Nat), .int s.high]) rfl (dall_nor _ _ rfl) q6
      simp only [fAsg, fTmp, c, tmpR_id (show (D.tup (s.all s.K)).pur = true by rw [pur_tup]; exact s.pur _), bnd_ok, gN, List.set_cons_succ, List.set_cons_zero]
    refine (seqE (e := (eL ns (some d) (some (.int (1 + a1 : Nat))) (some (.int (1 + a2 : Nat))) (some (.int s.many)) (some (.int s.high)) (some (.int s.size)) (some (.int (Stk.sh s))) (some (.ref (rest.length + 2))) (some (.int (s.K * s.high : Nat))) (some (.tup (s.all s.K))) o12 o13 o14 o15 o16 o17 o18 o19 o20 o21 o22 o23 o24 o25 o26)) (h1 := BH cs b4 (rest ++ [.lst s.its])) ((ifF ca).trans rfl)).trans ?_
    refine (seqE (e := (eL ns (some d) (some (.int (1 + a1 : Nat))) (some (.int (1 + a2 : Nat))) (some (.int s.many)) (some (.int s.high)) (some (.int s.size)) (some (.int (Stk.sh s))) (some (.ref (rest.length + 2))) (some (.int (s.K * s.high : Nat))) (some (.tup (s.all s.K))) (some (.int 0)) o13 o14 o15 o16 o17 o18 o19 o20 o21 o22 o23 o24 o25 o26)) (h1 := BH cs b4 (rest ++ [.lst s.its])) rfl).trans ?_
    refine (seqE fl).trans ?_
    refine (seqE (h1 := BH cs b4 (rest ++ [.lst s.its])) ((ifF cb).trans rfl)).trans ?_
    refine (seqE (e := (eL ns (some d) (some (.int (1 + a1 : Nat))) (some (.int (1 + a2 : Nat))) (some (.int s.many)) (some (.int s.high)) (some (.int s.size)) (some (.int (Stk.sh s))) (some (.ref (rest.length + 2))) (some (.int (s.K * s.high : Nat))) (some (.tup (s.all s.K))) (some (.int s.many)) p13 p14 p15 p16 (some (.tup (cntD l))) o18 o19 o20 o21 o22 o23 o24 o25 o26)) (h1 := BH cs b5 (rest ++ [.lst s.its])) (by unfold fAsg; rw [ce]; rfl)).trans ?_
    refine (seqE (e := (eL ns (some d) (some (.int (1 + a1 : Nat))) (some (.int (1 + a2 : Nat))) (some (.int s.many)) (some (.int s.high)) (some (.int s.size)) (some (.int (Stk.sh s))) (some (.ref (rest.length + 2))) (some (.int (s.K * s.high : Nat))) (some (.tup (s.all s.K))) (some (.int s.many)) p13 p14 p15 p16 (some (.tup (cntD l))) o18 (some (.tup (os.map Off.d))) o20 o21 o22 o23 o24 o25 o26)) (h1 := BH cs b6 (rest ++ [.lst s.its])) (by unfold fAsg; rw [oe]; rfl)).trans ?_
    refine (seqE (e := (eL ns (some d) (some (.int (1 + a1 : Nat))) (some (.int (1 + a2 : Nat))) (some (.int s.many)) (some (.int s.high)) (some (.int s.size)) (some (.int (Stk.sh s))) (some (.ref (rest.length + 2))) (some (.int (s.K * s.high : Nat))) (some (.tup (s.all s.K))) (some (.int s.many)) p13 p14 p15 p16 (some (.tup (cntD l))) o18 (some (.tup (os.map Off.d))) (some (.ref (rest.length + 3))) o21 o22 o23 o24 o25 o26)) (h1 := BH cs b6 (rest ++ [.lst s.its] ++ [.lst []])) ?_).trans ?_
    · have c := tmpL_nil cs b6 (rest ++ [.lst s.its]) hr2 (eL ns (some d) (some (.int (1 + a1 : Nat))) (some (.int (1 + a2 : Nat))) (some (.int s.many)) (some (.int s.high)) (some (.int s.size)) (some (.int (Stk.sh s))) (some (.ref (rest.length + 2))) (some (.int (s.K * s.high : Nat))) (some (.tup (s.all s.K))) (some (.int s.many)) p13 p14 p15 p16 (some (.tup (cntD l))) o18 (some (.tup (os.map Off.d))) o20 o21 o22 o23 o24 o25 o26)
      rw [hl3] at c
      unfold fAsg
      rw [c]; rfl
    refine (seqE (forE (s := ⟨enumL 0 (os.map Off.d), []⟩) rfl xl)).trans ?_
    exact (ifF ck).trans rfl
  · rw [List.all_append, hr2]
    have hf := cost_form l os 0
    simp only [List.all_cons, List.all_nil, Bool.and_true, Bool.true_and, obNor]
    exact nors_of fun x m => by obtain ⟨a, c, rfl⟩ := hf x m; rfl
theorem ref_law : ∀ ns : List Int, ns.length ≤ 63 → ∃ h, fs_law (([D.scr ns].map some) ++ List.replicate (N_law.length - 1) none) [] = .ok (.rt (.bl true)) h := by
  intro ns hl
  have hc : (ns.map fun i => if i < 0 then -i else i).length ≤ 63 := by rw [List.length_map]; exact hl
  generalize hcs : (ns.map fun i => if i < 0 then -i else i) = cs at hc
  obtain ⟨e', h', z, b', rest', o2, o3, o4, o5, o6, o7, o8, o9, o10, o11, o12, o13, o14, o15, o16, o17, o18, o19, o20, o21, o22, o23, o24, o25, o26, hr, rfl, rfl⟩ := for_inv (fg := gN 2) (fb := fb_law_4) (s := ⟨rangeL 0 6, []⟩) (fun e h => ∃ b' rest' q2 q3 q4 q5 q6 q7 q8 q9 q10 q11 q12 q13 q14 q15 q16 q17 q18 q19 q20 q21 q22 q23 q24 q25 q26, rest'.all obNor = true ∧ e = eL ns q2 q3 q4 q5 q6 q7 q8 q9 q10 q11 q12 q13 q14 q15 q16 q17 q18 q19 q20 q21 q22 q23 q24 q25 q26 ∧ h = BH cs b' rest') (fun e h i => good_nil _ _) (rangeL 0 6)
    (fun d m e h i => by
      obtain ⟨b', rest', q2, q3, q4, q5, q6, q7, q8, q9, q10, q11, q12, q13, q14, q15, q16, q17, q18, q19, q20, q21, q22, q23, q24, q25, q26, hr, rfl, rfl⟩ := i
      obtain ⟨b'', rest'', p3, p4, p5, p6, p7, p8, p9, p10, p11, p12, p13, p14, p15, p16, p17, p18, p19, p20, p21, p22, p23, p24, p25, p26, hr', z⟩ := turn_ev d ns cs hc b' rest' hr q3 q4 q5 q6 q7 q8 q9 q10 q11 q12 q13 q14 q15 q16 q17 q18 q19 q20 q21 q22 q23 q24 q25 q26
      exact ⟨_, _, rfl, _, _, .inl z, b'', rest'', some d, p3, p4, p5, p6, p7, p8, p9, p10, p11, p12, p13, p14, p15, p16, p17, p18, p19, p20, p21, p22, p23, p24, p25, p26, hr', rfl, rfl⟩)
    (eL ns none none none none none none none none none none none none none none none none none none none none none none none none none) (BH cs ⟨0, 1234567891, 0⟩ []) ⟨⟨0, 1234567891, 0⟩, [], none, none, none, none, none, none, none, none, none, none, none, none, none, none, none, none, none, none, none, none, none, none, none, none, none, rfl, rfl, rfl⟩
  refine ⟨BH cs b' rest', ?_⟩
  show fs_law (some (.scr ns) :: List.replicate 26 none) [] = _
  unfold fs_law
  refine (seqE (e := eL ns none none none none none none none none none none none none none none none none none none none none none none none none none) (h1 := BH cs ⟨0, 1234567891, 0⟩ []) ?_).trans ?_
  · simp (decide := true) only [fAsg, fNewB, fCons, fVar, fNil, bnd_ok, List.getElem?_cons_zero, newB, hl, if_true, hcs, gN]
    rfl
  refine (seqE (e := eL ns o2 o3 o4 o5 o6 o7 o8 o9 o10 o11 o12 o13 o14 o15 o16 o17 o18 o19 o20 o21 o22 o23 o24 o25 o26) (h1 := BH cs b' rest') (forE ?_ z)).trans rfl
  unfold fi_law_8
  simp (decide := true) only [fVar, fC, fOp2, fUn, fNil, fCons, fTup, fLst, fTest, fAnd, fOr, fNot, fAndV, fOrV, fNotV, fIf, fCB, fNo, fSo, fSl, fTmp, fTmpB, fBM, fM1, fAsg, fDrop, fRet, fRetN, fIfS, fPar, fPar3, fAug, fAugL, fNext, fBreak, fCont, gN, gT, gConsF, gNilF, gS, fYes, fTru, fNewB, fIter, fRng1, fRng2, bnd_ok, tmpR, tmpB, lof, own, seqOf, srcOf, addD, subD, fdivD, modD, powD, mulD, negD, ltD, leD, gtD, geD, ixD, slD, lenD, absD, PF.intD, max2D, min2D, listD, tupleD, zipD, iaddD, appendD, extendD, popD, joinD, truD, tyD, isND, notND, D.isNon, List.getElem?_cons_zero, List.getElem?_cons_succ, List.set_cons_zero, List.set_cons_succ, List.length_cons, List.length_nil, List.cons_append, List.nil_append, List.append_nil, List.take_succ_cons, List.take_zero, List.take_nil, List.all_cons, List.all_nil, Bool.and_true, Bool.true_and, Bool.and_self, if_true, if_false, Bool.false_eq_true, Nat.reduceAdd, Nat.zero_add, Nat.reduceLeDiff, Nat.reduceLT, ite_true, ite_false, reduceIte, List.map_cons, List.map_nil, List.replicate, List.length_append, List.getElem?_nil, Option.isSome_some, beq_self_eq_true]
  rfl
section
variable {P : Program} {w : World} {g : G} {mg : Str → Option Value} {base : Heap} {a__wall a_is_integer a_is_within a_slots a_need_slot a_rounded_up a_sheets_needed a_cost_of a_least_sheet a_piled_label a_printed_on a_piled_order a_cut_and_laid a_stacks a_stacked_order a__law_bag a__law_take a__law_alike a__law_laid a_law : Addr} {d__wall d_is_integer d_is_within d_slots d_need_slot d_rounded_up d_sheets_needed d_cost_of d_least_sheet d_piled_label d_printed_on d_piled_order d_cut_and_laid d_stacks d_stacked_order d__law_bag d__law_take d__law_alike d__law_laid d_law : FuncData}
theorem ok__wall (T : Txt g.K mg a__wall a_is_integer a_is_within a_slots a_need_slot a_rounded_up a_sheets_needed a_cost_of a_least_sheet a_piled_label a_printed_on a_piled_order a_cut_and_laid a_stacks a_stacked_order a__law_bag a__law_take a__law_alike a__law_laid a_law d__wall d_is_integer d_is_within d_slots d_need_slot d_rounded_up d_sheets_needed d_cost_of d_least_sheet d_piled_label d_printed_on d_piled_order d_cut_and_laid d_stacks d_stacked_order d__law_bag d__law_take d__law_alike d__law_laid d_law) : FnOk P w g.K mg base CX0 1 a__wall d__wall ["k"] (SpP g F__wall) := by
  refine def_ok (fs := fs__wall) T.F__wall sc__wall (fun cdv A outer s H E hr => ?_) ref__wall
  refine ⟨_, (pss_one (ps_while PassesOwn.never (kTru g.K pe_bl (by intro _; rfl)) (pss_one ps_pass))), ?_⟩
  exact (sim_while (sim_tru (sim_bl true)) sim_next)
theorem ok_is_integer (T : Txt g.K mg a__wall a_is_integer a_is_within a_slots a_need_slot a_rounded_up a_sheets_needed a_cost_of a_least_sheet a_piled_label a_printed_on a_piled_order a_cut_and_laid a_stacks a_stacked_order a__law_bag a__law_take a__law_alike a__law_laid a_law d__wall d_is_integer d_is_within d_slots d_need_slot d_rounded_up d_sheets_needed d_cost_of d_least_sheet d_piled_label d_printed_on d_piled_order d_cut_and_laid d_stacks d_stacked_order d__law_bag d__law_take d__law_alike d__law_laid d_law) : FnOk P w g.K mg base CX0 1 a_is_integer d_is_integer ["thing"] (SpP g F_is_integer) := by
  refine def_ok (fs := fs_is_integer) T.F_is_integer sc_is_integer (fun cdv A outer s H E hr => ?_) ref_is_integer
  refine ⟨_, (pss_one (ps_ret (pe_and (pe_callB (kIsi g.K) (by rfl) T.z_isinstance boot_isinstance (pa_cons (pv 0) (pa_cons (pe_bltn (v := .ty "int") (by rfl) T.z_int boot_int rfl) pa_nil))) (pe_one (pe_not (pe_callB (kIsi g.K) (by rfl) T.z_isinstance boot_isinstance (pa_cons (pv 0) (pa_cons (pe_bltn (v := .ty "bool") (by rfl) T.z_bool boot_bool rfl) pa_nil)))))))), ?_⟩
  exact (sim_ret (sim_andV (sim_isi1 (by decide) (sim_var 0)) (sim_notV (sim_isi1 (by decide) (sim_var 0)))))
theorem ok_slots (T : Txt g.K mg a__wall a_is_integer a_is_within a_slots a_need_slot a_rounded_up a_sheets_needed a_cost_of a_least_sheet a_piled_label a_printed_on a_piled_order a_cut_and_laid a_stacks a_stacked_order a__law_bag a__law_take a__law_alike a__law_laid a_law d__wall d_is_integer d_is_within d_slots d_need_slot d_rounded_up d_sheets_needed d_cost_of d_least_sheet d_piled_label d_printed_on d_piled_order d_cut_and_laid d_stacks d_stacked_order d__law_bag d__law_take d__law_alike d__law_laid d_law) : FnOk P w g.K mg base CX0 1 a_slots d_slots ["across", "down"] (SpP g F_slots) := by
  refine def_ok (fs := fs_slots) T.F_slots sc_slots (fun cdv A outer s H E hr => ?_) ref_slots
  refine ⟨_, (pss_one (ps_ret (pe_op (kMul g.K) (pv 0) (pv 1)))), ?_⟩
  exact (sim_ret (sim_op sim_mul (sim_var 0) (sim_var 1)))
theorem ok_rounded_up (T : Txt g.K mg a__wall a_is_integer a_is_within a_slots a_need_slot a_rounded_up a_sheets_needed a_cost_of a_least_sheet a_piled_label a_printed_on a_piled_order a_cut_and_laid a_stacks a_stacked_order a__law_bag a__law_take a__law_alike a__law_laid a_law d__wall d_is_integer d_is_within d_slots d_need_slot d_rounded_up d_sheets_needed d_cost_of d_least_sheet d_piled_label d_printed_on d_piled_order d_cut_and_laid d_stacks d_stacked_order d__law_bag d__law_take d__law_alike d__law_laid d_law) : FnOk P w g.K mg base CX0 1 a_rounded_up d_rounded_up ["many", "by"] (SpP g F_rounded_up) := by
  refine def_ok (fs := fs_rounded_up) T.F_rounded_up sc_rounded_up (fun cdv A outer s H E hr => ?_) ref_rounded_up
  refine ⟨_, (pss_one (ps_ret (pe_un un_neg (pe_op op_fdivN (pe_un un_neg (pv 0)) (pv 1))))), ?_⟩
  exact (sim_ret (sim_un sim_neg (sim_op sim_fdiv (sim_un sim_neg (sim_var 0)) (sim_var 1))))
theorem ok_piled_label (T : Txt g.K mg a__wall a_is_integer a_is_within a_slots a_need_slot a_rounded_up a_sheets_needed a_cost_of a_least_sheet a_piled_label a_printed_on a_piled_order a_cut_and_laid a_stacks a_stacked_order a__law_bag a__law_take a__law_alike a__law_laid a_law d__wall d_is_integer d_is_within d_slots d_need_slot d_rounded_up d_sheets_needed d_cost_of d_least_sheet d_piled_label d_printed_on d_piled_order d_cut_and_laid d_stacks d_stacked_order d__law_bag d__law_take d__law_alike d__law_laid d_law) : FnOk P w g.K mg base CX0 1 a_piled_label d_piled_label ["sheet", "slot", "sheets", "many"] (SpP g F_piled_label) := by
  refine def_ok (fs := fs_piled_label) T.F_piled_label sc_piled_label (fun cdv A outer s H E hr => ?_) ref_piled_label
  refine ⟨_, (pss_cons (ps_set (i := 4) sc_piled_label.nd rfl (Or.inl rfl) (pe_op (kAdd g.K) (pv 0) (pe_op (kMul g.K) (pv 1) (pv 2))))
      (pss_one (ps_ret (pe_ifExp (pt_cmpR op_uLt (pv 4) (pv 3) (nomark _)) (pv 4) pe_non)))), ?_⟩
  exact (sim_seq (sim_asg (sim_op sim_add (sim_var 0) (sim_op sim_mul (sim_var 1) (sim_var 2))) (sim_gname 4))
      (sim_ret (sim_ifE (sim_test (sim_op sim_lt (sim_var 4) (sim_var 3))) (sim_var 4) sim_non)))
theorem ok_cut_and_laid (T : Txt g.K mg a__wall a_is_integer a_is_within a_slots a_need_slot a_rounded_up a_sheets_needed a_cost_of a_least_sheet a_piled_label a_printed_on a_piled_order a_cut_and_laid a_stacks a_stacked_order a__law_bag a__law_take a__law_alike a__law_laid a_law d__wall d_is_integer d_is_within d_slots d_need_slot d_rounded_up d_sheets_needed d_cost_of d_least_sheet d_piled_label d_printed_on d_piled_order d_cut_and_laid d_stacks d_stacked_order d__law_bag d__law_take d__law_alike d__law_laid d_law) : FnOk P w g.K mg base CX0 1 a_cut_and_laid d_cut_and_laid ["printed"] (SpP g F_cut_and_laid) := by
  refine def_ok (fs := fs_cut_and_laid) T.F_cut_and_laid sc_cut_and_laid (fun cdv A outer s H E hr => ?_) ref_cut_and_laid
  refine ⟨_, (pss_cons (ps_set (i := 1) sc_cut_and_laid.nd rfl (Or.inl rfl) (pe_lst pa_nil))
      (pss_cons (ps_for PassesOwn.never rfl (pi_range1 (by rfl) T.z_range (pa_cons (pe_ifExp (pt_cmpR (kNe g.K hr.units) (pv 0) (pe_tup pa_nil) (nomark _)) (pe_callB (kLen g.K) (by rfl) T.z_len PySem.boot_len (pa_cons (pe_ix (kIx g.K) (pv 0) pe_int (fun _ _ => rfl)) pa_nil)) pe_int) pa_nil)) (pg_name (i := 2) sc_cut_and_laid.nd rfl (Or.inr rfl)) (pss_one (ps_expr (pe_bm PySem.F.plainAttrs_list PySem.F.slot_list_extend PySem.F.type_list_extend mt_extend (pv 1) (pa_cons (pe_lc (own := [("sheet", 3)]) (g := (gName 3)) rfl sc_cut_and_laid.nd (kIt g.K (pv 0)) (blkOk_by (own := [("sheet", 3)]) (N := N_cut_and_laid) (sc := defScope s_cut_and_laid) (by decide +kernel)) (fun _ _ _ _ _ => (pg_name (i := 3) sc_cut_and_laid.nd rfl (by first | exact Or.inl rfl | exact Or.inr rfl))) (fun _ _ _ _ _ => (pts_one (pt_cmpR op_notN (pe_ix (kIx g.K) (pv 3) (pv 2) (fun _ _ => rfl)) pe_non (nomark _)))) (fun _ _ _ _ _ => (pe_ix (kIx g.K) (pv 3) (pv 2) (fun _ _ => rfl)))) pa_nil)))))
      (pss_one (ps_ret (pe_callTy (kTupOf g.K) (by rfl) T.z_tuple (by decide +kernel) (pa_cons (pv 1) pa_nil)))))), ?_⟩
  exact (sim_seq (sim_asg (sim_tmp (sim_lst sim_nil)) (sim_gname 1))
      (sim_seq (sim_for (sim_rng1 (sim_cons (sim_ifE (sim_test (sim_op sim_ne (sim_var 0) (sim_tup sim_nil))) (sim_cb sim_len (sim_cons (sim_op sim_ix (sim_var 0) (sim_int 0)) sim_nil)) (sim_int 0)) sim_nil)) (sim_gname 2) (sim_drop (sim_bm sim_extend (sim_var 1) (sim_cons (sim_tmp (sim_lc (vs := [3]) (sim_iter (sim_var 0)) (sim_gname 3) (only_name (by decide)) (sim_test (sim_op sim_notN (sim_op sim_ix (sim_var 3) (sim_var 2)) sim_non)) (sim_op sim_ix (sim_var 3) (sim_var 2)))) sim_nil))))
      (sim_ret (sim_cb sim_tuple (sim_cons (sim_var 1) sim_nil)))))
theorem ok__law_bag (T : Txt g.K mg a__wall a_is_integer a_is_within a_slots a_need_slot a_rounded_up a_sheets_needed a_cost_of a_least_sheet a_piled_label a_printed_on a_piled_order a_cut_and_laid a_stacks a_stacked_order a__law_bag a__law_take a__law_alike a__law_laid a_law d__wall d_is_integer d_is_within d_slots d_need_slot d_rounded_up d_sheets_needed d_cost_of d_least_sheet d_piled_label d_printed_on d_piled_order d_cut_and_laid d_stacks d_stacked_order d__law_bag d__law_take d__law_alike d__law_laid d_law) : FnOk P w g.K mg base CX0 1 a__law_bag d__law_bag ["script"] (SpN g) := by
  refine defN_ok (fs := fs__law_bag) T.F__law_bag sc__law_bag (fun cdv A outer s H E hr => ?_) ref__law_bag
  refine ⟨_, (pss_one (ps_ret (pe_lst (pa_cons pe_int (pa_cons pe_int (pa_cons pe_int (pa_cons (pe_lc (own := [("cell", 1)]) (g := (gName 1)) (tt := tYes) rfl sc__law_bag.nd (kIt g.K (pe_slice (kSl g.K) (pv 0) po_none (po_some pe_int))) (blkOk_by (own := [("cell", 1)]) (N := N__law_bag) (sc := defScope s__law_bag) (by decide +kernel)) (fun _ _ _ _ _ => (pg_name (i := 1) sc__law_bag.nd rfl (by first | exact Or.inl rfl | exact Or.inr rfl))) (fun _ _ _ _ _ => pts_nil) (fun _ _ _ _ _ => (pe_callB call_abs (by rfl) T.z_abs (by decide +kernel) (pa_cons (pv 1) pa_nil)))) pa_nil))))))), ?_⟩
  exact (sim_ret (sim_lst (sim_cons (sim_int 0) (sim_cons (sim_int 1234567891) (sim_cons (sim_int 0) (sim_cons (sim_lc (vs := [1]) (sim_iter (sim_sl sim_slice (sim_var 0) sim_no (sim_so (sim_int 63)))) (sim_gname 1) (only_name (by decide)) sim_yes (sim_cb sim_abs (sim_cons (sim_var 1) sim_nil))) sim_nil))))))
theorem ok__law_take (T : Txt g.K mg a__wall a_is_integer a_is_within a_slots a_need_slot a_rounded_up a_sheets_needed a_cost_of a_least_sheet a_piled_label a_printed_on a_piled_order a_cut_and_laid a_stacks a_stacked_order a__law_bag a__law_take a__law_alike a__law_laid a_law d__wall d_is_integer d_is_within d_slots d_need_slot d_rounded_up d_sheets_needed d_cost_of d_least_sheet d_piled_label d_printed_on d_piled_order d_cut_and_laid d_stacks d_stacked_order d__law_bag d__law_take d__law_alike d__law_laid d_law) : FnOk P w g.K mg base CX0 1 a__law_take d__law_take ["bag", "many"] (SpB g F__law_take) := by
  refine defB_ok (fs := fs__law_take) T.F__law_take sc__law_take (fun cdv A outer s H E hr => ?_) ref__law_take
  refine ⟨_, (pss_cons (ps_if (pt_cmpR (kEq g.K hr.units) (pe_ix (kIx g.K) (pv 0) pe_int (fun _ _ => rfl)) pe_int (nomark _)) (pss_cons (ps_set (i := 2) sc__law_take.nd rfl (Or.inl rfl) (pe_ix (kIx g.K) (pe_op (kAdd g.K) (pe_slice (kSl g.K) (pe_ix (kIx g.K) (pv 0) pe_int (fun _ _ => rfl)) (po_some (pe_ix (kIx g.K) (pv 0) pe_int (fun _ _ => rfl))) po_none) (pe_lst (pa_cons pe_int pa_nil))) pe_int (fun _ _ => rfl)))
      (pss_cons (ps_augS (pv 0) pe_int (get_seq g.K) pe_int iop_uAdd set_list)
      (pss_cons (ps_if (pt_cmpR op_uGe (pv 2) (pe_op op_pow pe_int pe_int) (nomark _)) (pss_one (ps_asg (pv 2) (pg_sub (pv 0) pe_int set_list))) pss_nil)
      (pss_cons (ps_set (i := 3) sc__law_take.nd rfl (Or.inl rfl) (pe_op (kAdd g.K) (pe_op (kAdd g.K) (pe_op (kMul g.K) (pe_ix (kIx g.K) (pv 0) pe_int (fun _ _ => rfl)) pe_int) (pe_op op_modN (pe_callTy call_int1 (by rfl) T.z_int (by decide +kernel) (pa_cons (pv 2) pa_nil)) pe_int)) (pe_op (kMul g.K) pe_int (pe_ix (kIx g.K) (pv 0) pe_int (fun _ _ => rfl)))))
      (pss_one (ps_asg (pe_op op_modN (pe_callTy call_int1 (by rfl) T.z_int (by decide +kernel) (pa_cons (pv 3) pa_nil)) pe_int) (pg_sub (pv 0) pe_int set_list))))))) pss_nil)
      (pss_cons (ps_if (pt_cmpR op_uGt (pe_ix (kIx g.K) (pv 0) pe_int (fun _ _ => rfl)) pe_int (nomark _)) (pss_cons (ps_set (i := 4) sc__law_take.nd rfl (Or.inl rfl) (pe_op op_modN (pe_callTy call_int1 (by rfl) T.z_int (by decide +kernel) (pa_cons (pe_ix (kIx g.K) (pv 0) pe_int (fun _ _ => rfl)) pa_nil)) (pv 1)))
      (pss_cons (ps_asg (pe_op op_fdivN (pe_callTy call_int1 (by rfl) T.z_int (by decide +kernel) (pa_cons (pe_ix (kIx g.K) (pv 0) pe_int (fun _ _ => rfl)) pa_nil)) (pv 1)) (pg_sub (pv 0) pe_int set_list))
      (pss_one (ps_ret (pv 4))))) pss_nil)
      (pss_cons (ps_set (i := 5) sc__law_take.nd rfl (Or.inl rfl) (pe_op op_modN (pe_callTy call_int1 (by rfl) T.z_int (by decide +kernel) (pa_cons (pe_op (kMul g.K) (pe_op (kAdd g.K) (pe_ix (kIx g.K) (pv 0) pe_int (fun _ _ => rfl)) pe_int) pe_int) pa_nil)) pe_int))
      (pss_cons (ps_set (i := 6) sc__law_take.nd rfl (Or.inl rfl) (pe_op op_modN (pe_callTy call_int1 (by rfl) T.z_int (by decide +kernel) (pa_cons (pe_op (kMul g.K) (pe_op op_modN (pe_callTy call_int1 (by rfl) T.z_int (by decide +kernel) (pa_cons (pe_op (kMul g.K) (pv 5) (pv 5)) pa_nil)) pe_int) pe_int) pa_nil)) pe_int))
      (pss_one (ps_ret (pe_op op_modN (pe_callTy call_int1 (by rfl) T.z_int (by decide +kernel) (pa_cons (pe_op op_fdivN (pv 6) pe_int) pa_nil)) (pv 1)))))))), ?_⟩
  exact (sim_seq (sim_ifS (sim_test (sim_op sim_eq (sim_op sim_ix (sim_var 0) (sim_int 0)) (sim_int 0))) (sim_seq (sim_asg (sim_tmp (sim_op sim_ix (sim_op sim_add (sim_sl sim_slice (sim_op sim_ix (sim_var 0) (sim_int 3)) (sim_so (sim_op sim_ix (sim_var 0) (sim_int 2))) sim_no) (sim_lst (sim_cons (sim_int 0) sim_nil))) (sim_int 0))) (sim_gname 2))
      (sim_seq (sim_augL sim_iadd (sim_var 0) (sim_int 2) (sim_int 1))
      (sim_seq (sim_ifS (sim_test (sim_op sim_ge (sim_var 2) (sim_op sim_pow (sim_int 10) (sim_int 18)))) (sim_asg (sim_var 2) (sim_gsub (sim_var 0) (sim_int 0))) sim_next)
      (sim_seq (sim_asg (sim_op sim_add (sim_op sim_add (sim_op sim_mul (sim_op sim_ix (sim_var 0) (sim_int 1)) (sim_int 48271)) (sim_op sim_mod (sim_cb sim_int1 (sim_cons (sim_var 2) sim_nil)) (sim_int 2147483647))) (sim_op sim_mul (sim_int 7919) (sim_op sim_ix (sim_var 0) (sim_int 2)))) (sim_gname 3))
      (sim_asg (sim_op sim_mod (sim_cb sim_int1 (sim_cons (sim_var 3) sim_nil)) (sim_int 2147483647)) (sim_gsub (sim_var 0) (sim_int 1))))))) sim_next)
      (sim_seq (sim_ifS (sim_test (sim_op sim_gt (sim_op sim_ix (sim_var 0) (sim_int 0)) (sim_int 0))) (sim_seq (sim_asg (sim_op sim_mod (sim_cb sim_int1 (sim_cons (sim_op sim_ix (sim_var 0) (sim_int 0)) sim_nil)) (sim_var 1)) (sim_gname 4))
      (sim_seq (sim_asg (sim_op sim_fdiv (sim_cb sim_int1 (sim_cons (sim_op sim_ix (sim_var 0) (sim_int 0)) sim_nil)) (sim_var 1)) (sim_gsub (sim_var 0) (sim_int 0)))
      (sim_ret (sim_var 4)))) sim_next)
      (sim_seq (sim_asg (sim_op sim_mod (sim_cb sim_int1 (sim_cons (sim_op sim_mul (sim_op sim_add (sim_op sim_ix (sim_var 0) (sim_int 1)) (sim_int 1)) (sim_int 39373)) sim_nil)) (sim_int 1000000007)) (sim_gname 5))
      (sim_seq (sim_asg (sim_op sim_mod (sim_cb sim_int1 (sim_cons (sim_op sim_mul (sim_op sim_mod (sim_cb sim_int1 (sim_cons (sim_op sim_mul (sim_var 5) (sim_var 5)) sim_nil)) (sim_int 998244353)) (sim_int 30011)) sim_nil)) (sim_int 998244353)) (sim_gname 6))
      (sim_ret (sim_op sim_mod (sim_cb sim_int1 (sim_cons (sim_op sim_fdiv (sim_var 6) (sim_int 7)) sim_nil)) (sim_var 1)))))))
theorem ok__law_alike (T : Txt g.K mg a__wall a_is_integer a_is_within a_slots a_need_slot a_rounded_up a_sheets_needed a_cost_of a_least_sheet a_piled_label a_printed_on a_piled_order a_cut_and_laid a_stacks a_stacked_order a__law_bag a__law_take a__law_alike a__law_laid a_law d__wall d_is_integer d_is_within d_slots d_need_slot d_rounded_up d_sheets_needed d_cost_of d_least_sheet d_piled_label d_printed_on d_piled_order d_cut_and_laid d_stacks d_stacked_order d__law_bag d__law_take d__law_alike d__law_laid d_law) : FnOk P w g.K mg base CX0 1 a__law_alike d__law_alike ["found", "due"] (SpP g F__law_alike) := by
  refine def_ok (fs := fs__law_alike) T.F__law_alike sc__law_alike (fun cdv A outer s H E hr => ?_) ref__law_alike
  refine ⟨_, (pss_cons (ps_par (i := 2) (j := 3) (by rfl) sc__law_alike.nd rfl rfl (by decide) rfl rfl (pa_cons (pe_lst (pa_cons (pe_tup (pa_cons (pv 0) (pa_cons (pv 1) pa_nil))) pa_nil)) (pa_cons pe_int pa_nil)) (by rfl))
      (pss_cons (ps_while PassesOwn.never (pt_cmpR op_uLt (pv 3) (pe_callB (kLen g.K) (by rfl) T.z_len PySem.boot_len (pa_cons (pv 2) pa_nil)) (nomark _)) (pss_cons (ps_asg (pe_ix (kIx g.K) (pv 2) (pv 3) (fun _ _ => rfl)) (kTup g.K rfl (pgs_cons (pg_name (i := 4) sc__law_alike.nd rfl (Or.inl rfl)) (pgs_cons (pg_name (i := 5) sc__law_alike.nd rfl (Or.inl rfl)) pgs_nil))))
      (pss_cons (ps_aug (i := 3) sc__law_alike.nd rfl (Or.inl rfl) pe_int iop_uAdd)
      (pss_cons (ps_if (PW.pt (pw_or (pt_cmpR (kNe g.K hr.units) (pe_callB (kIsi g.K) (by rfl) T.z_isinstance boot_isinstance (pa_cons (pv 4) (pa_cons (pe_bltn (v := .ty "bool") (by rfl) T.z_bool boot_bool rfl) pa_nil))) (pe_callB (kIsi g.K) (by rfl) T.z_isinstance boot_isinstance (pa_cons (pv 5) (pa_cons (pe_bltn (v := .ty "bool") (by rfl) T.z_bool boot_bool rfl) pa_nil))) (nomark _)) (pw_or1 (pt_cmpR (kNe g.K hr.units) (pe_callB (kIsi g.K) (by rfl) T.z_isinstance boot_isinstance (pa_cons (pv 4) (pa_cons (pe_bltn (v := .ty "str") (by rfl) T.z_str boot_str rfl) pa_nil))) (pe_callB (kIsi g.K) (by rfl) T.z_isinstance boot_isinstance (pa_cons (pv 5) (pa_cons (pe_bltn (v := .ty "str") (by rfl) T.z_str boot_str rfl) pa_nil))) (nomark _))))) (pss_one (ps_ret pe_bl)) pss_nil)
      (pss_cons (ps_if (pt_cmpR (kNe g.K hr.units) (pe_callB (kIsiT g.K) (by rfl) T.z_isinstance boot_isinstance (pa_cons (pv 4) (pa_cons (pe_tup (pa_cons (pe_bltn (v := .ty "tuple") (by rfl) T.z_tuple boot_tuple rfl) (pa_cons (pe_bltn (v := .ty "list") (by rfl) T.z_list boot_list rfl) pa_nil))) pa_nil))) (pe_callB (kIsiT g.K) (by rfl) T.z_isinstance boot_isinstance (pa_cons (pv 5) (pa_cons (pe_tup (pa_cons (pe_bltn (v := .ty "tuple") (by rfl) T.z_tuple boot_tuple rfl) (pa_cons (pe_bltn (v := .ty "list") (by rfl) T.z_list boot_list rfl) pa_nil))) pa_nil))) (nomark _)) (pss_one (ps_ret pe_bl)) pss_nil)
      (pss_one (ps_if (kTru g.K (pe_callB (kIsiT g.K) (by rfl) T.z_isinstance boot_isinstance (pa_cons (pv 4) (pa_cons (pe_tup (pa_cons (pe_bltn (v := .ty "tuple") (by rfl) T.z_tuple boot_tuple rfl) (pa_cons (pe_bltn (v := .ty "list") (by rfl) T.z_list boot_list rfl) pa_nil))) pa_nil))) (by intro _; rfl)) (pss_cons (ps_if (PW.pt (pw_or (pt_cmpR (kNe g.K hr.units) (pe_callB (kIsi g.K) (by rfl) T.z_isinstance boot_isinstance (pa_cons (pv 4) (pa_cons (pe_bltn (v := .ty "tuple") (by rfl) T.z_tuple boot_tuple rfl) pa_nil))) (pe_callB (kIsi g.K) (by rfl) T.z_isinstance boot_isinstance (pa_cons (pv 5) (pa_cons (pe_bltn (v := .ty "tuple") (by rfl) T.z_tuple boot_tuple rfl) pa_nil))) (nomark _)) (pw_or1 (pt_cmpR (kNe g.K hr.units) (pe_callB (kLen g.K) (by rfl) T.z_len PySem.boot_len (pa_cons (pv 4) pa_nil)) (pe_callB (kLen g.K) (by rfl) T.z_len PySem.boot_len (pa_cons (pv 5) pa_nil)) (nomark _))))) (pss_one (ps_ret pe_bl)) pss_nil)
      (pss_one (ps_expr (pe_bm PySem.F.plainAttrs_list PySem.F.slot_list_extend PySem.F.type_list_extend mt_extend (pv 2) (pa_cons (kZip g.K rfl T.z_list rfl T.z_zip (pa_cons (pv 4) (pa_cons (pv 5) pa_nil)) rfl) pa_nil))))) (pss_one (ps_if (pt_cmpR (kNe g.K hr.units) (pv 4) (pv 5) (nomark _)) (pss_one (ps_ret pe_bl)) pss_nil)))))))))
      (pss_one (ps_ret pe_bl)))), ?_⟩
  exact (sim_seq (sim_par (sim_cons (sim_lst (sim_cons (sim_tup (sim_cons (sim_var 0) (sim_cons (sim_var 1) sim_nil))) sim_nil)) (sim_cons (sim_int 0) sim_nil)))
      (sim_seq (sim_while (sim_test (sim_op sim_lt (sim_var 3) (sim_cb sim_len (sim_cons (sim_var 2) sim_nil)))) (sim_seq (sim_asg (sim_op sim_ix (sim_var 2) (sim_var 3)) (sim_gtup (sim_gcons (sim_gname 4) (sim_gcons (sim_gname 5) sim_gnil))))
      (sim_seq (sim_aug sim_iadd (sim_int 1))
      (sim_seq (sim_ifS (sim_or (sim_test (sim_op sim_ne (sim_isi1 (by decide) (sim_var 4)) (sim_isi1 (by decide) (sim_var 5)))) (sim_test (sim_op sim_ne (sim_isi1 (by decide) (sim_var 4)) (sim_isi1 (by decide) (sim_var 5))))) (sim_ret (sim_bl false)) sim_next)
      (sim_seq (sim_ifS (sim_test (sim_op sim_ne (sim_isi2 (by decide) (by decide) (sim_var 4)) (sim_isi2 (by decide) (by decide) (sim_var 5)))) (sim_ret (sim_bl false)) sim_next)
      (sim_ifS (sim_tru (sim_isi2 (by decide) (by decide) (sim_var 4))) (sim_seq (sim_ifS (sim_or (sim_test (sim_op sim_ne (sim_isi1 (by decide) (sim_var 4)) (sim_isi1 (by decide) (sim_var 5)))) (sim_test (sim_op sim_ne (sim_cb sim_len (sim_cons (sim_var 4) sim_nil)) (sim_cb sim_len (sim_cons (sim_var 5) sim_nil))))) (sim_ret (sim_bl false)) sim_next)
      (sim_drop (sim_bm sim_extend (sim_var 2) (sim_cons (sim_tmp (sim_lz (sim_cons (sim_var 4) (sim_cons (sim_var 5) sim_nil)))) sim_nil)))) (sim_ifS (sim_test (sim_op sim_ne (sim_var 4) (sim_var 5))) (sim_ret (sim_bl false)) sim_next)))))))
      (sim_ret (sim_bl true))))
theorem ok__law_laid (T : Txt g.K mg a__wall a_is_integer a_is_within a_slots a_need_slot a_rounded_up a_sheets_needed a_cost_of a_least_sheet a_piled_label a_printed_on a_piled_order a_cut_and_laid a_stacks a_stacked_order a__law_bag a__law_take a__law_alike a__law_laid a_law d__wall d_is_integer d_is_within d_slots d_need_slot d_rounded_up d_sheets_needed d_cost_of d_least_sheet d_piled_label d_printed_on d_piled_order d_cut_and_laid d_stacks d_stacked_order d__law_bag d__law_take d__law_alike d__law_laid d_law) : FnOk P w g.K mg base CX0 1 a__law_laid d__law_laid ["printed"] (SpP g F__law_laid) := by
  refine def_ok (fs := fs__law_laid) T.F__law_laid sc__law_laid (fun cdv A outer s H E hr => ?_) ref__law_laid
  refine ⟨_, (pss_cons (ps_set (i := 1) sc__law_laid.nd rfl (Or.inl rfl) (pe_lst pa_nil))
      (pss_cons (ps_for PassesOwn.never rfl (pi_range1 (by rfl) T.z_range (pa_cons (pe_ifExp (pt_cmpR (kNe g.K hr.units) (pv 0) (pe_tup pa_nil) (nomark _)) (pe_callB (kLen g.K) (by rfl) T.z_len PySem.boot_len (pa_cons (pe_ix (kIx g.K) (pv 0) pe_int (fun _ _ => rfl)) pa_nil)) pe_int) pa_nil)) (pg_name (i := 2) sc__law_laid.nd rfl (Or.inl rfl)) (pss_one (ps_for PassesOwn.never rfl (kIt g.K (pv 0)) (pg_name (i := 3) sc__law_laid.nd rfl (Or.inl rfl)) (pss_one (ps_set (i := 1) sc__law_laid.nd rfl (Or.inl rfl) (pe_op (kAdd g.K) (pv 1) (pe_ifExp (pt_cmpR op_notN (pe_ix (kIx g.K) (pv 3) (pv 2) (fun _ _ => rfl)) pe_non (nomark _)) (pe_lst (pa_cons (pe_ix (kIx g.K) (pv 3) (pv 2) (fun _ _ => rfl)) pa_nil)) (pe_lst pa_nil))))))))
      (pss_one (ps_ret (pv 1))))), ?_⟩
  exact (sim_seq (sim_asg (sim_tmp (sim_lst sim_nil)) (sim_gname 1))
      (sim_seq (sim_for (sim_rng1 (sim_cons (sim_ifE (sim_test (sim_op sim_ne (sim_var 0) (sim_tup sim_nil))) (sim_cb sim_len (sim_cons (sim_op sim_ix (sim_var 0) (sim_int 0)) sim_nil)) (sim_int 0)) sim_nil)) (sim_gname 2) (sim_for (sim_iter (sim_var 0)) (sim_gname 3) (sim_asg (sim_tmp (sim_op sim_add (sim_var 1) (sim_ifE (sim_test (sim_op sim_notN (sim_op sim_ix (sim_var 3) (sim_var 2)) sim_non)) (sim_lst (sim_cons (sim_op sim_ix (sim_var 3) (sim_var 2)) sim_nil)) (sim_lst sim_nil)))) (sim_gname 1))))
      (sim_ret (sim_var 1))))
theorem ok_is_within (T : Txt g.K mg a__wall a_is_integer a_is_within a_slots a_need_slot a_rounded_up a_sheets_needed a_cost_of a_least_sheet a_piled_label a_printed_on a_piled_order a_cut_and_laid a_stacks a_stacked_order a__law_bag a__law_take a__law_alike a__law_laid a_law d__wall d_is_integer d_is_within d_slots d_need_slot d_rounded_up d_sheets_needed d_cost_of d_least_sheet d_piled_label d_printed_on d_piled_order d_cut_and_laid d_stacks d_stacked_order d__law_bag d__law_take d__law_alike d__law_laid d_law) : FnOk P w g.K mg base CX0 2 a_is_within d_is_within ["thing", "least", "most"] (SpP g F_is_within) := by
  refine def_ok (fs := fs_is_within) T.F_is_within sc_is_within (fun cdv A outer s H E hr => ?_) ref_is_within
  refine ⟨_, (pss_one (ps_ret (pe_and (pe_call (ok_is_integer T) hr rfl T.g_is_integer T.F_is_integer.kp T.b_is_integer .nil pass0 (pa_cons (pv 0) pa_nil)) (pe_one (pe_chain op_uLe op_uLe (pv 1) (pv 0) (pv 2)))))), ?_⟩
  exact (sim_ret (sim_andV (sim_call (sim_cons (sim_var 0) sim_nil)) (sim_chain sim_le sim_le (sim_var 1) (sim_var 0) (sim_var 2))))
theorem ok_printed_on (T : Txt g.K mg a__wall a_is_integer a_is_within a_slots a_need_slot a_rounded_up a_sheets_needed a_cost_of a_least_sheet a_piled_label a_printed_on a_piled_order a_cut_and_laid a_stacks a_stacked_order a__law_bag a__law_take a__law_alike a__law_laid a_law d__wall d_is_integer d_is_within d_slots d_need_slot d_rounded_up d_sheets_needed d_cost_of d_least_sheet d_piled_label d_printed_on d_piled_order d_cut_and_laid d_stacks d_stacked_order d__law_bag d__law_take d__law_alike d__law_laid d_law) : FnOk P w g.K mg base CX0 2 a_printed_on d_printed_on ["sheets", "slots_many", "first", "many"] (SpP g F_printed_on) := by
  refine def_ok (fs := fs_printed_on) T.F_printed_on sc_printed_on (fun cdv A outer s H E hr => ?_) ref_printed_on
  refine ⟨_, (pss_cons (ps_set (i := 4) sc_printed_on.nd rfl (Or.inl rfl) (pe_lst pa_nil))
      (pss_cons (ps_for PassesOwn.never rfl (pi_range1 (by rfl) T.z_range (pa_cons (pv 0) pa_nil)) (pg_name (i := 5) sc_printed_on.nd rfl (Or.inr rfl)) (pss_cons (ps_setLc (i := 6) (hc := rfl) (hN := sc_printed_on.nd) (hy := rfl) (hyl := rfl) (hsw := sw_true rfl rfl rfl (by decide +kernel)) (own := [("slot", 7)]) (g := (gName 7)) (tt := tYes) (pi_range1 (by rfl) T.z_range (pa_cons (pv 1) pa_nil)) (blkOk_by (own := [("slot", 7)]) (N := N_printed_on) (sc := defScope s_printed_on) (by decide +kernel)) (fun _ _ _ _ _ => (pg_name (i := 7) sc_printed_on.nd rfl (by first | exact Or.inl rfl | exact Or.inr rfl))) (fun _ _ _ _ _ => pts_nil) (fun _ _ _ _ _ => (pe_call (ok_piled_label T) hr rfl T.g_piled_label T.F_piled_label.kp T.b_piled_label .nil pass0 (pa_cons (pv 5) (pa_cons (pv 7) (pa_cons (pv 0) (pa_cons (pe_op op_sub (pv 3) (pv 2)) pa_nil)))))))
      (pss_one (ps_expr (pe_bm PySem.F.plainAttrs_list PySem.F.slot_list_append PySem.F.type_list_append mt_append (pv 4) (pa_cons (pe_callTy (kTupOf g.K) (by rfl) T.z_tuple (by decide +kernel) (pa_cons (pe_lc (own := [("label", 8)]) (g := (gName 8)) (tt := tYes) rfl sc_printed_on.nd (kIt g.K (pv 6)) (blkOk_by (own := [("label", 8)]) (N := N_printed_on) (sc := defScope s_printed_on) (by decide +kernel)) (fun _ _ _ _ _ => (pg_name (i := 8) sc_printed_on.nd rfl (by first | exact Or.inl rfl | exact Or.inr rfl))) (fun _ _ _ _ _ => pts_nil) (fun _ _ _ _ _ => (pe_ifExp (pt_cmpR op_isN (pv 8) pe_non (nomark _)) pe_non (pe_op (kAdd g.K) (pv 2) (pv 8))))) pa_nil)) pa_nil))))))
      (pss_one (ps_ret (pv 4))))), ?_⟩
  exact (sim_seq (sim_asg (sim_tmp (sim_lst sim_nil)) (sim_gname 4))
      (sim_seq (sim_for (sim_rng1 (sim_cons (sim_var 0) sim_nil)) (sim_gname 5) (sim_seq (sim_asg (sim_val (sim_lc (vs := [7]) (sim_rng1 (sim_cons (sim_var 1) sim_nil)) (sim_gname 7) (only_name (by decide)) sim_yes (sim_tmp (sim_call (sim_cons (sim_var 5) (sim_cons (sim_var 7) (sim_cons (sim_var 0) (sim_cons (sim_op sim_sub (sim_var 3) (sim_var 2)) sim_nil)))))))) (sim_gname 6))
      (sim_drop (sim_bm sim_append (sim_var 4) (sim_cons (sim_tmp (sim_cb sim_tuple (sim_cons (sim_val (sim_lc (vs := [8]) (sim_iter (sim_var 6)) (sim_gname 8) (only_name (by decide)) sim_yes (sim_ifE (sim_test (sim_op sim_isN (sim_var 8) sim_non)) sim_non (sim_op sim_add (sim_var 2) (sim_var 8))))) sim_nil))) sim_nil)))))
      (sim_ret (sim_var 4))))
theorem ok_stacks (T : Txt g.K mg a__wall a_is_integer a_is_within a_slots a_need_slot a_rounded_up a_sheets_needed a_cost_of a_least_sheet a_piled_label a_printed_on a_piled_order a_cut_and_laid a_stacks a_stacked_order a__law_bag a__law_take a__law_alike a__law_laid a_law d__wall d_is_integer d_is_within d_slots d_need_slot d_rounded_up d_sheets_needed d_cost_of d_least_sheet d_piled_label d_printed_on d_piled_order d_cut_and_laid d_stacks d_stacked_order d__law_bag d__law_take d__law_alike d__law_laid d_law) : FnOk P w g.K mg base CX0 2 a_stacks d_stacks ["many", "across", "down", "high"] (SpP g F_stacks) := by
  refine def_ok (fs := fs_stacks) T.F_stacks sc_stacks (fun cdv A outer s H E hr => ?_) ref_stacks
  refine ⟨_, (pss_cons (ps_set (i := 4) sc_stacks.nd rfl (Or.inr rfl) (pe_call (ok_rounded_up T) hr rfl T.g_rounded_up T.F_rounded_up.kp T.b_rounded_up .nil pass0 (pa_cons (pv 0) (pa_cons (pe_call (ok_slots T) hr rfl T.g_slots T.F_slots.kp T.b_slots .nil pass0 (pa_cons (pv 1) (pa_cons (pv 2) pa_nil))) pa_nil))))
      (pss_one (ps_ret (pe_callTy (kTupOf g.K) (by rfl) T.z_tuple (by decide +kernel) (pa_cons (pe_lc (own := [("first", 5)]) (g := (gName 5)) (tt := tYes) rfl sc_stacks.nd (pi_range3 (by rfl) T.z_range (pa_cons pe_int (pa_cons (pv 4) (pa_cons (pv 3) pa_nil)))) (blkOk_by (own := [("first", 5)]) (N := N_stacks) (sc := defScope s_stacks) (by decide +kernel)) (fun _ _ _ _ _ => (pg_name (i := 5) sc_stacks.nd rfl (by first | exact Or.inl rfl | exact Or.inr rfl))) (fun _ _ _ _ _ => pts_nil) (fun _ _ _ _ _ => (pe_tup (pa_cons (pv 5) (pa_cons (pe_op op_sub (pe_callB (call_min2 rfl) (by rfl) T.z_min (by decide +kernel) (pa_cons (pe_op (kAdd g.K) (pv 5) (pv 3)) (pa_cons (pv 4) pa_nil))) pe_int) pa_nil))))) pa_nil))))), ?_⟩
  exact (sim_seq (sim_asg (sim_tmp (sim_call (sim_cons (sim_var 0) (sim_cons (sim_call (sim_cons (sim_var 1) (sim_cons (sim_var 2) sim_nil))) sim_nil)))) (sim_gname 4))
      (sim_ret (sim_cb sim_tuple (sim_cons (sim_val (sim_lc (vs := [5]) (sim_rng3 (sim_cons (sim_int 0) (sim_cons (sim_var 4) (sim_cons (sim_var 3) sim_nil)))) (sim_gname 5) (only_name (by decide)) sim_yes (sim_tup (sim_cons (sim_var 5) (sim_cons (sim_op sim_sub (sim_cb sim_min2 (sim_cons (sim_op sim_add (sim_var 5) (sim_var 3)) (sim_cons (sim_var 4) sim_nil))) (sim_int 1)) sim_nil))))) sim_nil))))
theorem ok_need_slot (T : Txt g.K mg a__wall a_is_integer a_is_within a_slots a_need_slot a_rounded_up a_sheets_needed a_cost_of a_least_sheet a_piled_label a_printed_on a_piled_order a_cut_and_laid a_stacks a_stacked_order a__law_bag a__law_take a__law_alike a__law_laid a_law d__wall d_is_integer d_is_within d_slots d_need_slot d_rounded_up d_sheets_needed d_cost_of d_least_sheet d_piled_label d_printed_on d_piled_order d_cut_and_laid d_stacks d_stacked_order d__law_bag d__law_take d__law_alike d__law_laid d_law) : FnOk P w g.K mg base CX0 3 a_need_slot d_need_slot ["across", "down", "number"] (SpP g F_need_slot) := by
  refine def_ok (fs := fs_need_slot) T.F_need_slot sc_need_slot (fun cdv A outer s H E hr => ?_) ref_need_slot
  refine ⟨_, (pss_one (ps_if (pt_not (kTru g.K (pe_call (ok_is_within T) hr rfl T.g_is_within T.F_is_within.kp T.b_is_within .nil pass0 (pa_cons (pv 2) (pa_cons pe_int (pa_cons (pe_op op_sub (pe_call (ok_slots T) (hr.mono (by decide)) rfl T.g_slots T.F_slots.kp T.b_slots .nil pass0 (pa_cons (pv 0) (pa_cons (pv 1) pa_nil))) pe_int) pa_nil)))) (by intro _; rfl))) (pss_one ps_never) pss_nil)), ?_⟩
  exact (sim_ifS (sim_tmpB (sim_not (sim_tru (sim_call (sim_cons (sim_var 2) (sim_cons (sim_int 0) (sim_cons (sim_op sim_sub (sim_call (sim_cons (sim_var 0) (sim_cons (sim_var 1) sim_nil))) (sim_int 1)) sim_nil))))))) sim_never sim_next)
theorem ok_piled_order (T : Txt g.K mg a__wall a_is_integer a_is_within a_slots a_need_slot a_rounded_up a_sheets_needed a_cost_of a_least_sheet a_piled_label a_printed_on a_piled_order a_cut_and_laid a_stacks a_stacked_order a__law_bag a__law_take a__law_alike a__law_laid a_law d__wall d_is_integer d_is_within d_slots d_need_slot d_rounded_up d_sheets_needed d_cost_of d_least_sheet d_piled_label d_printed_on d_piled_order d_cut_and_laid d_stacks d_stacked_order d__law_bag d__law_take d__law_alike d__law_laid d_law) : FnOk P w g.K mg base CX0 3 a_piled_order d_piled_order ["many", "across", "down"] (SpP g F_piled_order) := by
  refine def_ok (fs := fs_piled_order) T.F_piled_order sc_piled_order (fun cdv A outer s H E hr => ?_) ref_piled_order
  refine ⟨_, (pss_cons (ps_set (i := 3) sc_piled_order.nd rfl (Or.inl rfl) (pe_call (ok_slots T) (hr.mono (by decide)) rfl T.g_slots T.F_slots.kp T.b_slots .nil pass0 (pa_cons (pv 1) (pa_cons (pv 2) pa_nil))))
      (pss_one (ps_ret (pe_callTy (kTupOf g.K) (by rfl) T.z_tuple (by decide +kernel) (pa_cons (pe_call (ok_printed_on T) hr rfl T.g_printed_on T.F_printed_on.kp T.b_printed_on .nil pass0 (pa_cons (pe_call (ok_rounded_up T) (hr.mono (by decide)) rfl T.g_rounded_up T.F_rounded_up.kp T.b_rounded_up .nil pass0 (pa_cons (pv 0) (pa_cons (pv 3) pa_nil))) (pa_cons (pv 3) (pa_cons pe_int (pa_cons (pv 0) pa_nil))))) pa_nil))))), ?_⟩
  exact (sim_seq (sim_asg (sim_tmp (sim_call (sim_cons (sim_var 1) (sim_cons (sim_var 2) sim_nil)))) (sim_gname 3))
      (sim_ret (sim_cb sim_tuple (sim_cons (sim_val (sim_call (sim_cons (sim_call (sim_cons (sim_var 0) (sim_cons (sim_var 3) sim_nil))) (sim_cons (sim_var 3) (sim_cons (sim_int 0) (sim_cons (sim_var 0) sim_nil)))))) sim_nil))))
theorem ok_stacked_order (T : Txt g.K mg a__wall a_is_integer a_is_within a_slots a_need_slot a_rounded_up a_sheets_needed a_cost_of a_least_sheet a_piled_label a_printed_on a_piled_order a_cut_and_laid a_stacks a_stacked_order a__law_bag a__law_take a__law_alike a__law_laid a_law d__wall d_is_integer d_is_within d_slots d_need_slot d_rounded_up d_sheets_needed d_cost_of d_least_sheet d_piled_label d_printed_on d_piled_order d_cut_and_laid d_stacks d_stacked_order d__law_bag d__law_take d__law_alike d__law_laid d_law) : FnOk P w g.K mg base CX0 3 a_stacked_order d_stacked_order ["many", "across", "down", "high"] (SpP g F_stacked_order) := by
  refine def_ok (fs := fs_stacked_order) T.F_stacked_order sc_stacked_order (fun cdv A outer s H E hr => ?_) ref_stacked_order
  refine ⟨_, (pss_cons (ps_par (i := 4) (j := 5) (by rfl) sc_stacked_order.nd rfl rfl (by decide) rfl rfl (pa_cons (pe_call (ok_slots T) (hr.mono (by decide)) rfl T.g_slots T.F_slots.kp T.b_slots .nil pass0 (pa_cons (pv 1) (pa_cons (pv 2) pa_nil))) (pa_cons (pe_lst pa_nil) pa_nil)) (by rfl))
      (pss_cons (ps_for PassesOwn.never rfl (kIt g.K (pe_call (ok_stacks T) hr rfl T.g_stacks T.F_stacks.kp T.b_stacks .nil pass0 (pa_cons (pv 0) (pa_cons (pv 1) (pa_cons (pv 2) (pa_cons (pv 3) pa_nil)))))) (kTup g.K rfl (pgs_cons (pg_name (i := 6) sc_stacked_order.nd rfl (Or.inl rfl)) (pgs_cons (pg_name (i := 7) sc_stacked_order.nd rfl (Or.inl rfl)) pgs_nil))) (pss_cons (ps_par (i := 8) (j := 9) (by rfl) sc_stacked_order.nd rfl rfl (by decide) rfl rfl (pa_cons (pe_op (kMul g.K) (pv 6) (pv 4)) (pa_cons (pe_op (kAdd g.K) (pe_op op_sub (pv 7) (pv 6)) pe_int) pa_nil)) (by rfl))
      (pss_one (ps_expr (pe_bm PySem.F.plainAttrs_list PySem.F.slot_list_extend PySem.F.type_list_extend mt_extend (pv 5) (pa_cons (pe_call (ok_printed_on T) hr rfl T.g_printed_on T.F_printed_on.kp T.b_printed_on .nil pass0 (pa_cons (pv 9) (pa_cons (pv 4) (pa_cons (pv 8) (pa_cons (pe_callB (call_min2 rfl) (by rfl) T.z_min (by decide +kernel) (pa_cons (pv 0) (pa_cons (pe_op (kAdd g.K) (pv 8) (pe_op (kMul g.K) (pv 9) (pv 4))) pa_nil))) pa_nil))))) pa_nil))))))
      (pss_one (ps_ret (pe_callTy (kTupOf g.K) (by rfl) T.z_tuple (by decide +kernel) (pa_cons (pv 5) pa_nil)))))), ?_⟩
  exact (sim_seq (sim_par (sim_cons (sim_call (sim_cons (sim_var 1) (sim_cons (sim_var 2) sim_nil))) (sim_cons (sim_lst sim_nil) sim_nil)))
      (sim_seq (sim_for (sim_iter (sim_call (sim_cons (sim_var 0) (sim_cons (sim_var 1) (sim_cons (sim_var 2) (sim_cons (sim_var 3) sim_nil)))))) (sim_gtup (sim_gcons (sim_gname 6) (sim_gcons (sim_gname 7) sim_gnil))) (sim_seq (sim_par (sim_cons (sim_op sim_mul (sim_var 6) (sim_var 4)) (sim_cons (sim_op sim_add (sim_op sim_sub (sim_var 7) (sim_var 6)) (sim_int 1)) sim_nil)))
      (sim_drop (sim_bm sim_extend (sim_var 5) (sim_cons (sim_val (sim_call (sim_cons (sim_var 9) (sim_cons (sim_var 4) (sim_cons (sim_var 8) (sim_cons (sim_cb sim_min2 (sim_cons (sim_var 0) (sim_cons (sim_op sim_add (sim_var 8) (sim_op sim_mul (sim_var 9) (sim_var 4))) sim_nil))) sim_nil)))))) sim_nil)))))
      (sim_ret (sim_cb sim_tuple (sim_cons (sim_var 5) sim_nil)))))
theorem ok_sheets_needed (T : Txt g.K mg a__wall a_is_integer a_is_within a_slots a_need_slot a_rounded_up a_sheets_needed a_cost_of a_least_sheet a_piled_label a_printed_on a_piled_order a_cut_and_laid a_stacks a_stacked_order a__law_bag a__law_take a__law_alike a__law_laid a_law d__wall d_is_integer d_is_within d_slots d_need_slot d_rounded_up d_sheets_needed d_cost_of d_least_sheet d_piled_label d_printed_on d_piled_order d_cut_and_laid d_stacks d_stacked_order d__law_bag d__law_take d__law_alike d__law_laid d_law) : FnOk P w g.K mg base CX0 4 a_sheets_needed d_sheets_needed ["many", "across", "down", "first"] (SpP g F_sheets_needed) := by
  refine def_ok (fs := fs_sheets_needed) T.F_sheets_needed sc_sheets_needed (fun cdv A outer s H E hr => ?_) ref_sheets_needed
  refine ⟨_, (pss_cons (ps_expr (pe_call (ok_need_slot T) hr rfl T.g_need_slot T.F_need_slot.kp T.b_need_slot .nil pass0 (pa_cons (pv 1) (pa_cons (pv 2) (pa_cons (pv 3) pa_nil)))))
      (pss_one (ps_ret (pe_ifExp (pt_cmpR op_uGt (pv 0) pe_int (nomark _)) (pe_call (ok_rounded_up T) (hr.mono (by decide)) rfl T.g_rounded_up T.F_rounded_up.kp T.b_rounded_up .nil pass0 (pa_cons (pe_op (kAdd g.K) (pv 3) (pv 0)) (pa_cons (pe_call (ok_slots T) (hr.mono (by decide)) rfl T.g_slots T.F_slots.kp T.b_slots .nil pass0 (pa_cons (pv 1) (pa_cons (pv 2) pa_nil))) pa_nil))) pe_int)))), ?_⟩
  exact (sim_seq (sim_drop (sim_call (sim_cons (sim_var 1) (sim_cons (sim_var 2) (sim_cons (sim_var 3) sim_nil)))))
      (sim_ret (sim_ifE (sim_test (sim_op sim_gt (sim_var 0) (sim_int 0))) (sim_call (sim_cons (sim_op sim_add (sim_var 3) (sim_var 0)) (sim_cons (sim_call (sim_cons (sim_var 1) (sim_cons (sim_var 2) sim_nil))) sim_nil))) (sim_int 0))))
theorem ok_cost_of (T : Txt g.K mg a__wall a_is_integer a_is_within a_slots a_need_slot a_rounded_up a_sheets_needed a_cost_of a_least_sheet a_piled_label a_printed_on a_piled_order a_cut_and_laid a_stacks a_stacked_order a__law_bag a__law_take a__law_alike a__law_laid a_law d__wall d_is_integer d_is_within d_slots d_need_slot d_rounded_up d_sheets_needed d_cost_of d_least_sheet d_piled_label d_printed_on d_piled_order d_cut_and_laid d_stacks d_stacked_order d__law_bag d__law_take d__law_alike d__law_laid d_law) : FnOk P w g.K mg base CX0 5 a_cost_of d_cost_of ["counts", "offer"] (SpP g F_cost_of) := by
  refine def_ok (fs := fs_cost_of) T.F_cost_of sc_cost_of (fun cdv A outer s H E hr => ?_) ref_cost_of
  refine ⟨_, (pss_cons (ps_asg (pv 1) (kTup g.K rfl (pgs_cons (pg_name (i := 2) sc_cost_of.nd rfl (Or.inr rfl)) (pgs_cons (pg_name (i := 3) sc_cost_of.nd rfl (Or.inr rfl)) (pgs_cons (pg_name (i := 4) sc_cost_of.nd rfl (Or.inl rfl)) pgs_nil)))))
      (pss_one (ps_ret (pe_op (kMul g.K) (pv 4) (pe_callB (kSum g.K rfl) (by rfl) T.z_sum (by decide +kernel) (pa_cons (pe_lc (own := [("many", 5)]) (g := (gName 5)) (tt := tYes) rfl sc_cost_of.nd (kIt g.K (pv 0)) (blkOk_by (own := [("many", 5)]) (N := N_cost_of) (sc := defScope s_cost_of) (by decide +kernel)) (fun _ _ _ _ _ => (pg_name (i := 5) sc_cost_of.nd rfl (by first | exact Or.inl rfl | exact Or.inr rfl))) (fun _ _ _ _ _ => pts_nil) (fun _ _ _ _ _ => (pe_call (ok_sheets_needed T) hr rfl T.g_sheets_needed T.F_sheets_needed.kp T.b_sheets_needed .nil pass0 (pa_cons (pv 5) (pa_cons (pv 2) (pa_cons (pv 3) (pa_cons pe_int pa_nil))))))) pa_nil)))))), ?_⟩
  exact (sim_seq (sim_asg (sim_var 1) (sim_gtup (sim_gcons (sim_gname 2) (sim_gcons (sim_gname 3) (sim_gcons (sim_gname 4) sim_gnil)))))
      (sim_ret (sim_op sim_mul (sim_var 4) (sim_cb sim_sum (sim_cons (sim_val (sim_lc (vs := [5]) (sim_iter (sim_var 0)) (sim_gname 5) (only_name (by decide)) sim_yes (sim_tmp (sim_call (sim_cons (sim_var 5) (sim_cons (sim_var 2) (sim_cons (sim_var 3) (sim_cons (sim_int 0) sim_nil)))))))) sim_nil)))))
theorem ok_least_sheet (T : Txt g.K mg a__wall a_is_integer a_is_within a_slots a_need_slot a_rounded_up a_sheets_needed a_cost_of a_least_sheet a_piled_label a_printed_on a_piled_order a_cut_and_laid a_stacks a_stacked_order a__law_bag a__law_take a__law_alike a__law_laid a_law d__wall d_is_integer d_is_within d_slots d_need_slot d_rounded_up d_sheets_needed d_cost_of d_least_sheet d_piled_label d_printed_on d_piled_order d_cut_and_laid d_stacks d_stacked_order d__law_bag d__law_take d__law_alike d__law_laid d_law) : FnOk P w g.K mg base CX0 6 a_least_sheet d_least_sheet ["counts", "offers"] (SpP g F_least_sheet) := by
  refine def_ok (fs := fs_least_sheet) T.F_least_sheet sc_least_sheet (fun cdv A outer s H E hr => ?_) ref_least_sheet
  refine ⟨_, (pss_one (ps_ret (pe_callB (kMinL g.K rfl hr.units) (by rfl) T.z_min (by decide +kernel) (pa_cons (pe_lc (own := [("index", 2), ("offer", 3)]) (g := (gTup _ 2 (gCons (gName 2) (gCons (gName 3) gNil)))) (tt := tYes) rfl sc_least_sheet.nd (kEnum g.K rfl T.z_enumerate (pa_cons (pv 1) pa_nil)) (blkOk_by (own := [("index", 2), ("offer", 3)]) (N := N_least_sheet) (sc := defScope s_least_sheet) (by decide +kernel)) (fun _ _ _ _ _ => (kTup g.K rfl (pgs_cons (pg_name (i := 2) sc_least_sheet.nd rfl (by first | exact Or.inl rfl | exact Or.inr rfl)) (pgs_cons (pg_name (i := 3) sc_least_sheet.nd rfl (by first | exact Or.inl rfl | exact Or.inr rfl)) pgs_nil)))) (fun _ _ _ _ _ => pts_nil) (fun _ _ _ _ _ => (pe_tup (pa_cons (pe_call (ok_cost_of T) hr rfl T.g_cost_of T.F_cost_of.kp T.b_cost_of .nil pass0 (pa_cons (pv 0) (pa_cons (pv 3) pa_nil))) (pa_cons (pv 2) pa_nil))))) pa_nil)))), ?_⟩
  exact (sim_ret (sim_cb sim_minL (sim_cons (sim_val (sim_lc (vs := [2, 3]) (sim_enum (sim_cons (sim_var 1) sim_nil)) (sim_gtup (sim_gcons (sim_gname 2) (sim_gcons (sim_gname 3) sim_gnil))) (only_tup (only_cons (only_name (by decide)) (only_cons (only_name (by decide)) only_nil (mono_name _)) (mono_name _))) sim_yes (sim_tmp (sim_tup (sim_cons (sim_call (sim_cons (sim_var 0) (sim_cons (sim_var 3) sim_nil))) (sim_cons (sim_var 2) sim_nil)))))) sim_nil)))
theorem ok_law (T : Txt g.K mg a__wall a_is_integer a_is_within a_slots a_need_slot a_rounded_up a_sheets_needed a_cost_of a_least_sheet a_piled_label a_printed_on a_piled_order a_cut_and_laid a_stacks a_stacked_order a__law_bag a__law_take a__law_alike a__law_laid a_law d__wall d_is_integer d_is_within d_slots d_need_slot d_rounded_up d_sheets_needed d_cost_of d_least_sheet d_piled_label d_printed_on d_piled_order d_cut_and_laid d_stacks d_stacked_order d__law_bag d__law_take d__law_alike d__law_laid d_law) : FnOk P w g.K mg base CX0 7 a_law d_law ["script"] (SpL g) := by
  refine defL_ok (fs := fs_law) T.F_law sc_law (fun cdv A outer s H E hr => ?_) ref_law
  refine ⟨_, (pss_cons (ps_set (i := 1) sc_law.nd rfl (Or.inr rfl) (pe_call (ok__law_bag T) (hr.mono (by decide)) rfl T.g__law_bag T.F__law_bag.kp T.b__law_bag .nil pass0 (pa_cons (pv 0) pa_nil)))
      (pss_cons (ps_for PassesOwn.never rfl (pi_range1 (by rfl) T.z_range (pa_cons pe_int pa_nil)) (pg_name (i := 2) sc_law.nd rfl (Or.inl rfl)) (pss_cons (ps_asg (pe_tup (pa_cons (pe_op (kAdd g.K) pe_int (pe_call (ok__law_take T) (hr.mono (by decide)) rfl T.g__law_take T.F__law_take.kp T.b__law_take .nil pass0 (pa_cons (pv 1) (pa_cons pe_int pa_nil)))) (pa_cons (pe_op (kAdd g.K) pe_int (pe_call (ok__law_take T) (hr.mono (by decide)) rfl T.g__law_take T.F__law_take.kp T.b__law_take .nil pass0 (pa_cons (pv 1) (pa_cons pe_int pa_nil)))) (pa_cons (pe_call (ok__law_take T) (hr.mono (by decide)) rfl T.g__law_take T.F__law_take.kp T.b__law_take .nil pass0 (pa_cons (pv 1) (pa_cons pe_int pa_nil))) (pa_cons (pe_op (kAdd g.K) pe_int (pe_call (ok__law_take T) (hr.mono (by decide)) rfl T.g__law_take T.F__law_take.kp T.b__law_take .nil pass0 (pa_cons (pv 1) (pa_cons pe_int pa_nil)))) pa_nil))))) (kTup g.K rfl (pgs_cons (pg_name (i := 3) sc_law.nd rfl (Or.inl rfl)) (pgs_cons (pg_name (i := 4) sc_law.nd rfl (Or.inl rfl)) (pgs_cons (pg_name (i := 5) sc_law.nd rfl (Or.inl rfl)) (pgs_cons (pg_name (i := 6) sc_law.nd rfl (Or.inl rfl)) pgs_nil))))))
      (pss_cons (ps_set (i := 7) sc_law.nd rfl (Or.inr rfl) (pe_op (kMul g.K) (pv 3) (pv 4)))
      (pss_cons (ps_set (i := 8) sc_law.nd rfl (Or.inl rfl) (pe_callTy call_int1 (by rfl) T.z_int (by decide +kernel) (pa_cons (pe_op op_fdivN (pe_op op_sub (pe_op (kAdd g.K) (pv 5) (pv 7)) pe_int) (pv 7)) pa_nil)))
      (pss_cons (ps_par (i := 9) (j := 10) (by rfl) sc_law.nd rfl rfl (by decide) rfl rfl (pa_cons (pe_lst pa_nil) (pa_cons pe_int pa_nil)) (by rfl))
      (pss_cons (ps_while PassesOwn.never (pt_cmpR op_uLt (pv 10) (pv 8) (nomark _)) (pss_cons (ps_expr (pe_bm PySem.F.plainAttrs_list PySem.F.slot_list_append PySem.F.type_list_append mt_append (pv 9) (pa_cons (pe_tup (pa_cons (pv 10) (pa_cons (pe_op op_sub (pe_callB (call_min2 rfl) (by rfl) T.z_min (by decide +kernel) (pa_cons (pe_op (kAdd g.K) (pv 10) (pv 6)) (pa_cons (pv 8) pa_nil))) pe_int) pa_nil))) pa_nil)))
      (pss_one (ps_set (i := 10) sc_law.nd rfl (Or.inl rfl) (pe_op (kAdd g.K) (pv 10) (pv 6))))))
      (pss_cons (ps_set (i := 11) sc_law.nd rfl (Or.inl rfl) (pe_call (ok_stacked_order T) (hr.mono (by decide)) rfl T.g_stacked_order T.F_stacked_order.kp T.b_stacked_order .nil pass0 (pa_cons (pv 5) (pa_cons (pv 3) (pa_cons (pv 4) (pa_cons (pv 6) pa_nil))))))
      (pss_cons (ps_if (PW.pt (pw_or (pt_not (kTru g.K (pe_call (ok__law_alike T) (hr.mono (by decide)) rfl T.g__law_alike T.F__law_alike.kp T.b__law_alike .nil pass0 (pa_cons (pe_call (ok_stacks T) (hr.mono (by decide)) rfl T.g_stacks T.F_stacks.kp T.b_stacks .nil pass0 (pa_cons (pv 5) (pa_cons (pv 3) (pa_cons (pv 4) (pa_cons (pv 6) pa_nil))))) (pa_cons (pe_callTy (kTupOf g.K) (by rfl) T.z_tuple (by decide +kernel) (pa_cons (pv 9) pa_nil)) pa_nil))) (by intro _; rfl))) (pw_or1 (pt_cmpR (kNe g.K hr.units) (pe_callB (kLen g.K) (by rfl) T.z_len PySem.boot_len (pa_cons (pv 11) pa_nil)) (pv 8) (nomark _))))) (pss_one (ps_ret pe_bl)) pss_nil)
      (pss_cons (ps_set (i := 12) sc_law.nd rfl (Or.inl rfl) pe_int)
      (pss_cons (ps_for PassesOwn.never rfl (kIt g.K (pv 9)) (kTup g.K rfl (pgs_cons (pg_name (i := 13) sc_law.nd rfl (Or.inl rfl)) (pgs_cons (pg_name (i := 14) sc_law.nd rfl (Or.inl rfl)) pgs_nil))) (pss_cons (ps_set (i := 15) sc_law.nd rfl (Or.inl rfl) (pe_call (ok__law_laid T) (hr.mono (by decide)) rfl T.g__law_laid T.F__law_laid.kp T.b__law_laid .nil pass0 (pa_cons (pe_slice (kSl g.K) (pv 11) (po_some (pv 13)) (po_some (pe_op (kAdd g.K) (pv 14) pe_int))) pa_nil)))
      (pss_cons (ps_if (PW.pt (pw_or (pt_cmpR (kNe g.K hr.units) (pv 15) (pe_listRg rfl rfl T.z_list (prg_2 rfl T.z_range (pv 12) (pe_op (kAdd g.K) (pv 12) (pe_callB (kLen g.K) (by rfl) T.z_len PySem.boot_len (pa_cons (pv 15) pa_nil))))) (nomark _)) (pw_or1 (pt_cmpR (kNe g.K hr.units) (pe_call (ok_cut_and_laid T) (hr.mono (by decide)) rfl T.g_cut_and_laid T.F_cut_and_laid.kp T.b_cut_and_laid .nil pass0 (pa_cons (pe_slice (kSl g.K) (pv 11) (po_some (pv 13)) (po_some (pe_op (kAdd g.K) (pv 14) pe_int))) pa_nil)) (pe_callTy (kTupOf g.K) (by rfl) T.z_tuple (by decide +kernel) (pa_cons (pv 15) pa_nil)) (nomark _))))) (pss_one (ps_ret pe_bl)) pss_nil)
      (pss_cons (ps_aug (i := 12) sc_law.nd rfl (Or.inl rfl) (pe_callB (kLen g.K) (by rfl) T.z_len PySem.boot_len (pa_cons (pv 15) pa_nil)) iop_uAdd)
      (pss_cons (ps_if (pt_cmpR (kNe g.K hr.units) (pe_lc (own := [("sheet", 16)]) (g := (gName 16)) rfl sc_law.nd (kIt g.K (pe_slice (kSl g.K) (pv 11) (po_some (pv 13)) (po_some (pe_op (kAdd g.K) (pv 14) pe_int)))) (blkOk_by (own := [("sheet", 16)]) (N := N_law) (sc := defScope s_law) (by decide +kernel)) (fun _ _ _ _ _ => (pg_name (i := 16) sc_law.nd rfl (by first | exact Or.inl rfl | exact Or.inr rfl))) (fun _ _ _ _ _ => (pts_one (pt_cmpR (kNe g.K hr.units) (pe_callB (kLen g.K) (by rfl) T.z_len PySem.boot_len (pa_cons (pv 16) pa_nil)) (pv 7) (nomark _)))) (fun _ _ _ _ _ => pe_int)) (pe_lst pa_nil) (nomark _)) (pss_one (ps_ret pe_bl)) pss_nil)
      (pss_one (ps_if (PW.pt (pw_and (pt_cmpR op_uLt (pv 14) (pe_op op_sub (pv 8) pe_int) (nomark _)) (pw_and1 (pt_cmpR (kNe g.K hr.units) (pe_callB (kLen g.K) (by rfl) T.z_len PySem.boot_len (pa_cons (pv 15) pa_nil)) (pe_op (kMul g.K) (pv 6) (pv 7)) (nomark _))))) (pss_one (ps_ret pe_bl)) pss_nil)))))))
      (pss_cons (ps_if (PW.pt (pw_or (pt_cmpR (kNe g.K hr.units) (pv 12) (pv 5) (nomark _)) (pw_or1 (pt_not (kTru g.K (pe_call (ok__law_alike T) (hr.mono (by decide)) rfl T.g__law_alike T.F__law_alike.kp T.b__law_alike .nil pass0 (pa_cons (pe_call (ok_stacked_order T) (hr.mono (by decide)) rfl T.g_stacked_order T.F_stacked_order.kp T.b_stacked_order .nil pass0 (pa_cons (pv 5) (pa_cons (pv 3) (pa_cons (pv 4) (pa_cons pe_int pa_nil))))) (pa_cons (pe_call (ok_piled_order T) (hr.mono (by decide)) rfl T.g_piled_order T.F_piled_order.kp T.b_piled_order .nil pass0 (pa_cons (pv 5) (pa_cons (pv 3) (pa_cons (pv 4) pa_nil)))) pa_nil))) (by intro _; rfl)))))) (pss_one (ps_ret pe_bl)) pss_nil)
      (pss_cons (ps_set (i := 17) sc_law.nd rfl (Or.inl rfl) (pe_callTy (kTupOf g.K) (by rfl) T.z_tuple (by decide +kernel) (pa_cons (pe_lc (own := [("again", 18)]) (g := (gName 18)) (tt := tYes) rfl sc_law.nd (pi_range1 (by rfl) T.z_range (pa_cons (pe_op (kAdd g.K) pe_int (pe_call (ok__law_take T) (hr.mono (by decide)) rfl T.g__law_take T.F__law_take.kp T.b__law_take .nil pass0 (pa_cons (pv 1) (pa_cons pe_int pa_nil)))) pa_nil)) (blkOk_by (own := [("again", 18)]) (N := N_law) (sc := defScope s_law) (by decide +kernel)) (fun _ _ _ _ _ => (pg_name (i := 18) sc_law.nd rfl (by first | exact Or.inl rfl | exact Or.inr rfl))) (fun _ _ _ _ _ => pts_nil) (fun _ _ _ _ _ => (pe_call (ok__law_take T) (hr.mono (by decide)) rfl T.g__law_take T.F__law_take.kp T.b__law_take .nil pass0 (pa_cons (pv 1) (pa_cons pe_int pa_nil))))) pa_nil)))
      (pss_cons (ps_set (i := 19) sc_law.nd rfl (Or.inl rfl) (pe_callTy (kTupOf g.K) (by rfl) T.z_tuple (by decide +kernel) (pa_cons (pe_lc (own := [("again", 18)]) (g := (gName 18)) (tt := tYes) rfl sc_law.nd (pi_range1 (by rfl) T.z_range (pa_cons (pe_op (kAdd g.K) pe_int (pe_call (ok__law_take T) (hr.mono (by decide)) rfl T.g__law_take T.F__law_take.kp T.b__law_take .nil pass0 (pa_cons (pv 1) (pa_cons pe_int pa_nil)))) pa_nil)) (blkOk_by (own := [("again", 18)]) (N := N_law) (sc := defScope s_law) (by decide +kernel)) (fun _ _ _ _ _ => (pg_name (i := 18) sc_law.nd rfl (by first | exact Or.inl rfl | exact Or.inr rfl))) (fun _ _ _ _ _ => pts_nil) (fun _ _ _ _ _ => (pe_tup (pa_cons (pe_op (kAdd g.K) pe_int (pe_call (ok__law_take T) (hr.mono (by decide)) rfl T.g__law_take T.F__law_take.kp T.b__law_take .nil pass0 (pa_cons (pv 1) (pa_cons pe_int pa_nil)))) (pa_cons (pe_op (kAdd g.K) pe_int (pe_call (ok__law_take T) (hr.mono (by decide)) rfl T.g__law_take T.F__law_take.kp T.b__law_take .nil pass0 (pa_cons (pv 1) (pa_cons pe_int pa_nil)))) (pa_cons (pe_call (ok__law_take T) (hr.mono (by decide)) rfl T.g__law_take T.F__law_take.kp T.b__law_take .nil pass0 (pa_cons (pv 1) (pa_cons pe_int pa_nil))) pa_nil)))))) pa_nil)))
      (pss_cons (ps_set (i := 20) sc_law.nd rfl (Or.inl rfl) (pe_lst pa_nil))
      (pss_cons (ps_for PassesOwn.never rfl (kEnum g.K rfl T.z_enumerate (pa_cons (pv 19) pa_nil)) (kTup g.K rfl (pgs_cons (pg_name (i := 21) sc_law.nd rfl (Or.inl rfl)) (pgs_cons (kTup g.K rfl (pgs_cons (pg_name (i := 22) sc_law.nd rfl (Or.inr rfl)) (pgs_cons (pg_name (i := 23) sc_law.nd rfl (Or.inr rfl)) (pgs_cons (pg_name (i := 24) sc_law.nd rfl (Or.inl rfl)) pgs_nil)))) pgs_nil))) (pss_cons (ps_setLc (i := 25) (hc := rfl) (hN := sc_law.nd) (hy := rfl) (hyl := rfl) (hsw := sw_true rfl rfl rfl (by decide +kernel)) (own := [("batch", 26)]) (g := (gName 26)) (tt := tYes) (kIt g.K (pv 17)) (blkOk_by (own := [("batch", 26)]) (N := N_law) (sc := defScope s_law) (by decide +kernel)) (fun _ _ _ _ _ => (pg_name (i := 26) sc_law.nd rfl (by first | exact Or.inl rfl | exact Or.inr rfl))) (fun _ _ _ _ _ => pts_nil) (fun _ _ _ _ _ => (pe_callTy call_int1 (by rfl) T.z_int (by decide +kernel) (pa_cons (pe_op op_fdivN (pe_op op_sub (pe_op (kAdd g.K) (pv 26) (pe_op (kMul g.K) (pv 22) (pv 23))) pe_int) (pe_op (kMul g.K) (pv 22) (pv 23))) pa_nil))))
      (pss_cons (ps_if (pt_not (kTru g.K (pe_call (ok__law_alike T) (hr.mono (by decide)) rfl T.g__law_alike T.F__law_alike.kp T.b__law_alike .nil pass0 (pa_cons (pe_lc (own := [("batch", 26)]) (g := (gName 26)) (tt := tYes) rfl sc_law.nd (kIt g.K (pv 17)) (blkOk_by (own := [("batch", 26)]) (N := N_law) (sc := defScope s_law) (by decide +kernel)) (fun _ _ _ _ _ => (pg_name (i := 26) sc_law.nd rfl (by first | exact Or.inl rfl | exact Or.inr rfl))) (fun _ _ _ _ _ => pts_nil) (fun _ _ _ _ _ => (pe_call (ok_sheets_needed T) (hr.mono (by decide)) rfl T.g_sheets_needed T.F_sheets_needed.kp T.b_sheets_needed .nil pass0 (pa_cons (pv 26) (pa_cons (pv 22) (pa_cons (pv 23) (pa_cons pe_int pa_nil))))))) (pa_cons (pv 25) pa_nil))) (by intro _; rfl))) (pss_one (ps_ret pe_bl)) pss_nil)
      (pss_one (ps_expr (pe_bm PySem.F.plainAttrs_list PySem.F.slot_list_append PySem.F.type_list_append mt_append (pv 20) (pa_cons (pe_tup (pa_cons (pe_op (kMul g.K) (pv 24) (pe_callB (kSum g.K rfl) (by rfl) T.z_sum (by decide +kernel) (pa_cons (pv 25) pa_nil))) (pa_cons (pv 21) pa_nil))) pa_nil)))))))
      (pss_one (ps_if (pt_not (kTru g.K (pe_call (ok__law_alike T) (hr.mono (by decide)) rfl T.g__law_alike T.F__law_alike.kp T.b__law_alike .nil pass0 (pa_cons (pe_call (ok_least_sheet T) hr rfl T.g_least_sheet T.F_least_sheet.kp T.b_least_sheet .nil pass0 (pa_cons (pv 17) (pa_cons (pv 19) pa_nil))) (pa_cons (pe_callB (kMinL g.K rfl hr.units) (by rfl) T.z_min (by decide +kernel) (pa_cons (pv 20) pa_nil)) pa_nil))) (by intro _; rfl))) (pss_one (ps_ret pe_bl)) pss_nil)))))))))))))))))
      (pss_one (ps_ret pe_bl)))), ?_⟩
  exact (sim_seq (sim_asg (sim_newB (sim_cons (sim_var 0) sim_nil)) (sim_gname 1))
      (sim_seq (sim_for (sim_rng1 (sim_cons (sim_int 6) sim_nil)) (sim_gname 2) (sim_seq (sim_asg (sim_tmp (sim_tup (sim_cons (sim_op sim_add (sim_int 1) (sim_callB (sim_cons (sim_var 1) (sim_cons (sim_int 4) sim_nil)))) (sim_cons (sim_op sim_add (sim_int 1) (sim_callB (sim_cons (sim_var 1) (sim_cons (sim_int 3) sim_nil)))) (sim_cons (sim_callB (sim_cons (sim_var 1) (sim_cons (sim_int 51) sim_nil))) (sim_cons (sim_op sim_add (sim_int 1) (sim_callB (sim_cons (sim_var 1) (sim_cons (sim_int 5) sim_nil)))) sim_nil)))))) (sim_gtup (sim_gcons (sim_gname 3) (sim_gcons (sim_gname 4) (sim_gcons (sim_gname 5) (sim_gcons (sim_gname 6) sim_gnil))))))
      (sim_seq (sim_asg (sim_op sim_mul (sim_var 3) (sim_var 4)) (sim_gname 7))
      (sim_seq (sim_asg (sim_cb sim_int1 (sim_cons (sim_op sim_fdiv (sim_op sim_sub (sim_op sim_add (sim_var 5) (sim_var 7)) (sim_int 1)) (sim_var 7)) sim_nil)) (sim_gname 8))
      (sim_seq (sim_par (sim_cons (sim_lst sim_nil) (sim_cons (sim_int 0) sim_nil)))
      (sim_seq (sim_while (sim_test (sim_op sim_lt (sim_var 10) (sim_var 8))) (sim_seq (sim_drop (sim_bm sim_append (sim_var 9) (sim_cons (sim_tup (sim_cons (sim_var 10) (sim_cons (sim_op sim_sub (sim_cb sim_min2 (sim_cons (sim_op sim_add (sim_var 10) (sim_var 6)) (sim_cons (sim_var 8) sim_nil))) (sim_int 1)) sim_nil))) sim_nil)))
      (sim_asg (sim_op sim_add (sim_var 10) (sim_var 6)) (sim_gname 10))))
      (sim_seq (sim_asg (sim_tmp (sim_call (sim_cons (sim_var 5) (sim_cons (sim_var 3) (sim_cons (sim_var 4) (sim_cons (sim_var 6) sim_nil)))))) (sim_gname 11))
      (sim_seq (sim_ifS (sim_tmpB (sim_or (sim_not (sim_tru (sim_call (sim_cons (sim_call (sim_cons (sim_var 5) (sim_cons (sim_var 3) (sim_cons (sim_var 4) (sim_cons (sim_var 6) sim_nil))))) (sim_cons (sim_cb sim_tuple (sim_cons (sim_var 9) sim_nil)) sim_nil))))) (sim_test (sim_op sim_ne (sim_cb sim_len (sim_cons (sim_var 11) sim_nil)) (sim_var 8))))) (sim_ret (sim_bl false)) sim_next)
      (sim_seq (sim_asg (sim_int 0) (sim_gname 12))
      (sim_seq (sim_for (sim_iter (sim_var 9)) (sim_gtup (sim_gcons (sim_gname 13) (sim_gcons (sim_gname 14) sim_gnil))) (sim_seq (sim_asg (sim_val (sim_call (sim_cons (sim_sl sim_slice (sim_var 11) (sim_so (sim_var 13)) (sim_so (sim_op sim_add (sim_var 14) (sim_int 1)))) sim_nil))) (sim_gname 15))
      (sim_seq (sim_ifS (sim_tmpB (sim_or (sim_test (sim_op sim_ne (sim_var 15) (sim_val (sim_lstRg2 (sim_var 12) (sim_op sim_add (sim_var 12) (sim_cb sim_len (sim_cons (sim_var 15) sim_nil))))))) (sim_test (sim_op sim_ne (sim_call (sim_cons (sim_sl sim_slice (sim_var 11) (sim_so (sim_var 13)) (sim_so (sim_op sim_add (sim_var 14) (sim_int 1)))) sim_nil)) (sim_cb sim_tuple (sim_cons (sim_var 15) sim_nil)))))) (sim_ret (sim_bl false)) sim_next)
      (sim_seq (sim_aug sim_iadd (sim_cb sim_len (sim_cons (sim_var 15) sim_nil)))
      (sim_seq (sim_ifS (sim_tmpB (sim_test (sim_op sim_ne (sim_val (sim_lc (vs := [16]) (sim_iter (sim_sl sim_slice (sim_var 11) (sim_so (sim_var 13)) (sim_so (sim_op sim_add (sim_var 14) (sim_int 1))))) (sim_gname 16) (only_name (by decide)) (sim_test (sim_op sim_ne (sim_cb sim_len (sim_cons (sim_var 16) sim_nil)) (sim_var 7))) (sim_int 1))) (sim_val (sim_lst sim_nil))))) (sim_ret (sim_bl false)) sim_next)
      (sim_ifS (sim_and (sim_test (sim_op sim_lt (sim_var 14) (sim_op sim_sub (sim_var 8) (sim_int 1)))) (sim_test (sim_op sim_ne (sim_cb sim_len (sim_cons (sim_var 15) sim_nil)) (sim_op sim_mul (sim_var 6) (sim_var 7))))) (sim_ret (sim_bl false)) sim_next))))))
      (sim_seq (sim_ifS (sim_tmpB (sim_or (sim_test (sim_op sim_ne (sim_var 12) (sim_var 5))) (sim_not (sim_tru (sim_call (sim_cons (sim_call (sim_cons (sim_var 5) (sim_cons (sim_var 3) (sim_cons (sim_var 4) (sim_cons (sim_int 60) sim_nil))))) (sim_cons (sim_call (sim_cons (sim_var 5) (sim_cons (sim_var 3) (sim_cons (sim_var 4) sim_nil)))) sim_nil))))))) (sim_ret (sim_bl false)) sim_next)
      (sim_seq (sim_asg (sim_tmp (sim_cb sim_tuple (sim_cons (sim_val (sim_lc (vs := [18]) (sim_rng1 (sim_cons (sim_op sim_add (sim_int 1) (sim_callB (sim_cons (sim_var 1) (sim_cons (sim_int 4) sim_nil)))) sim_nil)) (sim_gname 18) (only_name (by decide)) sim_yes (sim_tmp (sim_callB (sim_cons (sim_var 1) (sim_cons (sim_int 30) sim_nil)))))) sim_nil))) (sim_gname 17))
      (sim_seq (sim_asg (sim_tmp (sim_cb sim_tuple (sim_cons (sim_val (sim_lc (vs := [18]) (sim_rng1 (sim_cons (sim_op sim_add (sim_int 1) (sim_callB (sim_cons (sim_var 1) (sim_cons (sim_int 5) sim_nil)))) sim_nil)) (sim_gname 18) (only_name (by decide)) sim_yes (sim_tmp (sim_tup (sim_cons (sim_op sim_add (sim_int 1) (sim_callB (sim_cons (sim_var 1) (sim_cons (sim_int 4) sim_nil)))) (sim_cons (sim_op sim_add (sim_int 1) (sim_callB (sim_cons (sim_var 1) (sim_cons (sim_int 4) sim_nil)))) (sim_cons (sim_callB (sim_cons (sim_var 1) (sim_cons (sim_int 9) sim_nil))) sim_nil))))))) sim_nil))) (sim_gname 19))
      (sim_seq (sim_asg (sim_tmp (sim_lst sim_nil)) (sim_gname 20))
      (sim_seq (sim_for (sim_enum (sim_cons (sim_var 19) sim_nil)) (sim_gtup (sim_gcons (sim_gname 21) (sim_gcons (sim_gtup (sim_gcons (sim_gname 22) (sim_gcons (sim_gname 23) (sim_gcons (sim_gname 24) sim_gnil)))) sim_gnil))) (sim_seq (sim_asg (sim_val (sim_lc (vs := [26]) (sim_iter (sim_var 17)) (sim_gname 26) (only_name (by decide)) sim_yes (sim_cb sim_int1 (sim_cons (sim_op sim_fdiv (sim_op sim_sub (sim_op sim_add (sim_var 26) (sim_op sim_mul (sim_var 22) (sim_var 23))) (sim_int 1)) (sim_op sim_mul (sim_var 22) (sim_var 23))) sim_nil)))) (sim_gname 25))
      (sim_seq (sim_ifS (sim_tmpB (sim_not (sim_tru (sim_call (sim_cons (sim_val (sim_lc (vs := [26]) (sim_iter (sim_var 17)) (sim_gname 26) (only_name (by decide)) sim_yes (sim_tmp (sim_call (sim_cons (sim_var 26) (sim_cons (sim_var 22) (sim_cons (sim_var 23) (sim_cons (sim_int 0) sim_nil)))))))) (sim_cons (sim_var 25) sim_nil)))))) (sim_ret (sim_bl false)) sim_next)
      (sim_drop (sim_bm sim_append (sim_var 20) (sim_cons (sim_tup (sim_cons (sim_op sim_mul (sim_var 24) (sim_cb sim_sum (sim_cons (sim_var 25) sim_nil))) (sim_cons (sim_var 21) sim_nil))) sim_nil))))))
      (sim_ifS (sim_tmpB (sim_not (sim_tru (sim_call (sim_cons (sim_call (sim_cons (sim_var 17) (sim_cons (sim_var 19) sim_nil))) (sim_cons (sim_cb sim_minL (sim_cons (sim_var 20) sim_nil)) sim_nil)))))) (sim_ret (sim_bl false)) sim_next))))))))))))))))
      (sim_ret (sim_bl true))))
end
theorem all_mk {l : PySem.W.OpenLaw} {w : World} {K : PySem.W.Frag} {h : Heap} {mg : Str → Option Value} {fa : Addr} {a__wall a_is_integer a_is_within a_slots a_need_slot a_rounded_up a_sheets_needed a_cost_of a_least_sheet a_piled_label a_printed_on a_piled_order a_cut_and_laid a_stacks a_stacked_order a__law_bag a__law_take a__law_alike a__law_laid a_law : Addr} (X : K.In h) (G : h.Ns mainGlobals mg) (hfa : mg "law" = some (.ref fa))
    {od__wall an__wall : Option Addr} {sl__wall : Array (Option Value)} {oc__wall kV__wall dc__wall pm__wall cd__wall ct__wall : Value}
    {od_is_integer an_is_integer : Option Addr} {sl_is_integer : Array (Option Value)} {oc_is_integer kV_is_integer dc_is_integer pm_is_integer cd_is_integer ct_is_integer : Value}
    {od_is_within an_is_within : Option Addr} {sl_is_within : Array (Option Value)} {oc_is_within kV_is_within dc_is_within pm_is_within cd_is_within ct_is_within : Value}
    {od_slots an_slots : Option Addr} {sl_slots : Array (Option Value)} {oc_slots kV_slots dc_slots pm_slots cd_slots ct_slots : Value}
    {od_need_slot an_need_slot : Option Addr} {sl_need_slot : Array (Option Value)} {oc_need_slot kV_need_slot dc_need_slot pm_need_slot cd_need_slot ct_need_slot : Value}
    {od_rounded_up an_rounded_up : Option Addr} {sl_rounded_up : Array (Option Value)} {oc_rounded_up kV_rounded_up dc_rounded_up pm_rounded_up cd_rounded_up ct_rounded_up : Value}
    {od_sheets_needed an_sheets_needed : Option Addr} {sl_sheets_needed : Array (Option Value)} {oc_sheets_needed kV_sheets_needed dc_sheets_needed pm_sheets_needed cd_sheets_needed ct_sheets_needed : Value}
    {od_cost_of an_cost_of : Option Addr} {sl_cost_of : Array (Option Value)} {oc_cost_of kV_cost_of dc_cost_of pm_cost_of cd_cost_of ct_cost_of : Value}
    {od_least_sheet an_least_sheet : Option Addr} {sl_least_sheet : Array (Option Value)} {oc_least_sheet kV_least_sheet dc_least_sheet pm_least_sheet cd_least_sheet ct_least_sheet : Value}
    {od_piled_label an_piled_label : Option Addr} {sl_piled_label : Array (Option Value)} {oc_piled_label kV_piled_label dc_piled_label pm_piled_label cd_piled_label ct_piled_label : Value}
    {od_printed_on an_printed_on : Option Addr} {sl_printed_on : Array (Option Value)} {oc_printed_on kV_printed_on dc_printed_on pm_printed_on cd_printed_on ct_printed_on : Value}
    {od_piled_order an_piled_order : Option Addr} {sl_piled_order : Array (Option Value)} {oc_piled_order kV_piled_order dc_piled_order pm_piled_order cd_piled_order ct_piled_order : Value}
    {od_cut_and_laid an_cut_and_laid : Option Addr} {sl_cut_and_laid : Array (Option Value)} {oc_cut_and_laid kV_cut_and_laid dc_cut_and_laid pm_cut_and_laid cd_cut_and_laid ct_cut_and_laid : Value}
    {od_stacks an_stacks : Option Addr} {sl_stacks : Array (Option Value)} {oc_stacks kV_stacks dc_stacks pm_stacks cd_stacks ct_stacks : Value}
    {od_stacked_order an_stacked_order : Option Addr} {sl_stacked_order : Array (Option Value)} {oc_stacked_order kV_stacked_order dc_stacked_order pm_stacked_order cd_stacked_order ct_stacked_order : Value}
    {od__law_bag an__law_bag : Option Addr} {sl__law_bag : Array (Option Value)} {oc__law_bag kV__law_bag dc__law_bag pm__law_bag cd__law_bag ct__law_bag : Value}
    {od__law_take an__law_take : Option Addr} {sl__law_take : Array (Option Value)} {oc__law_take kV__law_take dc__law_take pm__law_take cd__law_take ct__law_take : Value}
    {od__law_alike an__law_alike : Option Addr} {sl__law_alike : Array (Option Value)} {oc__law_alike kV__law_alike dc__law_alike pm__law_alike cd__law_alike ct__law_alike : Value}
    {od__law_laid an__law_laid : Option Addr} {sl__law_laid : Array (Option Value)} {oc__law_laid kV__law_laid dc__law_laid pm__law_laid cd__law_laid ct__law_laid : Value}
    {od_law an_law : Option Addr} {sl_law : Array (Option Value)} {oc_law kV_law dc_law pm_law cd_law ct_law : Value}
    (q1__wall : PySem.W.nsIn K mainGlobals "_wall" = some (some (.ref a__wall))) (q2__wall : K.lookup a__wall = some ⟨oc__wall, od__wall, .func (PySem.W.fnOf "_wall" "_wall" (defArgs s__wall) (defBody s__wall) (defScope s__wall) .none kV__wall dc__wall pm__wall an__wall cd__wall ct__wall), sl__wall⟩) (q3__wall : PySem.W.codeIn K cd__wall "_wall" = true) (q4__wall : PySem.W.keepIn K (.ref a__wall) = true)
    (q1_is_integer : PySem.W.nsIn K mainGlobals "is_integer" = some (some (.ref a_is_integer))) (q2_is_integer : K.lookup a_is_integer = some ⟨oc_is_integer, od_is_integer, .func (PySem.W.fnOf "is_integer" "is_integer" (defArgs s_is_integer) (defBody s_is_integer) (defScope s_is_integer) .none kV_is_integer dc_is_integer pm_is_integer an_is_integer cd_is_integer ct_is_integer), sl_is_integer⟩) (q3_is_integer : PySem.W.codeIn K cd_is_integer "is_integer" = true) (q4_is_integer : PySem.W.keepIn K (.ref a_is_integer) = true)
    (q1_is_within : PySem.W.nsIn K mainGlobals "is_within" = some (some (.ref a_is_within))) (q2_is_within : K.lookup a_is_within = some ⟨oc_is_within, od_is_within, .func (PySem.W.fnOf "is_within" "is_within" (defArgs s_is_within) (defBody s_is_within) (defScope s_is_within) .none kV_is_within dc_is_within pm_is_within an_is_within cd_is_within ct_is_within), sl_is_within⟩) (q3_is_within : PySem.W.codeIn K cd_is_within "is_within" = true) (q4_is_within : PySem.W.keepIn K (.ref a_is_within) = true)
    (q1_slots : PySem.W.nsIn K mainGlobals "slots" = some (some (.ref a_slots))) (q2_slots : K.lookup a_slots = some ⟨oc_slots, od_slots, .func (PySem.W.fnOf "slots" "slots" (defArgs s_slots) (defBody s_slots) (defScope s_slots) .none kV_slots dc_slots pm_slots an_slots cd_slots ct_slots), sl_slots⟩) (q3_slots : PySem.W.codeIn K cd_slots "slots" = true) (q4_slots : PySem.W.keepIn K (.ref a_slots) = true)
    (q1_need_slot : PySem.W.nsIn K mainGlobals "need_slot" = some (some (.ref a_need_slot))) (q2_need_slot : K.lookup a_need_slot = some ⟨oc_need_slot, od_need_slot, .func (PySem.W.fnOf "need_slot" "need_slot" (defArgs s_need_slot) (defBody s_need_slot) (defScope s_need_slot) .none kV_need_slot dc_need_slot pm_need_slot an_need_slot cd_need_slot ct_need_slot), sl_need_slot⟩) (q3_need_slot : PySem.W.codeIn K cd_need_slot "need_slot" = true) (q4_need_slot : PySem.W.keepIn K (.ref a_need_slot) = true)
    (q1_rounded_up : PySem.W.nsIn K mainGlobals "rounded_up" = some (some (.ref a_rounded_up))) (q2_rounded_up : K.lookup a_rounded_up = some ⟨oc_rounded_up, od_rounded_up, .func (PySem.W.fnOf "rounded_up" "rounded_up" (defArgs s_rounded_up) (defBody s_rounded_up) (defScope s_rounded_up) .none kV_rounded_up dc_rounded_up pm_rounded_up an_rounded_up cd_rounded_up ct_rounded_up), sl_rounded_up⟩) (q3_rounded_up : PySem.W.codeIn K cd_rounded_up "rounded_up" = true) (q4_rounded_up : PySem.W.keepIn K (.ref a_rounded_up) = true)
    (q1_sheets_needed : PySem.W.nsIn K mainGlobals "sheets_needed" = some (some (.ref a_sheets_needed))) (q2_sheets_needed : K.lookup a_sheets_needed = some ⟨oc_sheets_needed, od_sheets_needed, .func (PySem.W.fnOf "sheets_needed" "sheets_needed" (defArgs s_sheets_needed) (defBody s_sheets_needed) (defScope s_sheets_needed) .none kV_sheets_needed dc_sheets_needed pm_sheets_needed an_sheets_needed cd_sheets_needed ct_sheets_needed), sl_sheets_needed⟩) (q3_sheets_needed : PySem.W.codeIn K cd_sheets_needed "sheets_needed" = true) (q4_sheets_needed : PySem.W.keepIn K (.ref a_sheets_needed) = true)
    (q1_cost_of : PySem.W.nsIn K mainGlobals "cost_of" = some (some (.ref a_cost_of))) (q2_cost_of : K.lookup a_cost_of = some ⟨oc_cost_of, od_cost_of, .func (PySem.W.fnOf "cost_of" "cost_of" (defArgs s_cost_of) (defBody s_cost_of) (defScope s_cost_of) .none kV_cost_of dc_cost_of pm_cost_of an_cost_of cd_cost_of ct_cost_of), sl_cost_of⟩) (q3_cost_of : PySem.W.codeIn K cd_cost_of "cost_of" = true) (q4_cost_of : PySem.W.keepIn K (.ref a_cost_of) = true)
    (q1_least_sheet : PySem.W.nsIn K mainGlobals "least_sheet" = some (some (.ref a_least_sheet))) (q2_least_sheet : K.lookup a_least_sheet = some ⟨oc_least_sheet, od_least_sheet, .func (PySem.W.fnOf "least_sheet" "least_sheet" (defArgs s_least_sheet) (defBody s_least_sheet) (defScope s_least_sheet) .none kV_least_sheet dc_least_sheet pm_least_sheet an_least_sheet cd_least_sheet ct_least_sheet), sl_least_sheet⟩) (q3_least_sheet : PySem.W.codeIn K cd_least_sheet "least_sheet" = true) (q4_least_sheet : PySem.W.keepIn K (.ref a_least_sheet) = true)
    (q1_piled_label : PySem.W.nsIn K mainGlobals "piled_label" = some (some (.ref a_piled_label))) (q2_piled_label : K.lookup a_piled_label = some ⟨oc_piled_label, od_piled_label, .func (PySem.W.fnOf "piled_label" "piled_label" (defArgs s_piled_label) (defBody s_piled_label) (defScope s_piled_label) .none kV_piled_label dc_piled_label pm_piled_label an_piled_label cd_piled_label ct_piled_label), sl_piled_label⟩) (q3_piled_label : PySem.W.codeIn K cd_piled_label "piled_label" = true) (q4_piled_label : PySem.W.keepIn K (.ref a_piled_label) = true)
    (q1_printed_on : PySem.W.nsIn K mainGlobals "printed_on" = some (some (.ref a_printed_on))) (q2_printed_on : K.lookup a_printed_on = some ⟨oc_printed_on, od_printed_on, .func (PySem.W.fnOf "printed_on" "printed_on" (defArgs s_printed_on) (defBody s_printed_on) (defScope s_printed_on) .none kV_printed_on dc_printed_on pm_printed_on an_printed_on cd_printed_on ct_printed_on), sl_printed_on⟩) (q3_printed_on : PySem.W.codeIn K cd_printed_on "printed_on" = true) (q4_printed_on : PySem.W.keepIn K (.ref a_printed_on) = true)
    (q1_piled_order : PySem.W.nsIn K mainGlobals "piled_order" = some (some (.ref a_piled_order))) (q2_piled_order : K.lookup a_piled_order = some ⟨oc_piled_order, od_piled_order, .func (PySem.W.fnOf "piled_order" "piled_order" (defArgs s_piled_order) (defBody s_piled_order) (defScope s_piled_order) .none kV_piled_order dc_piled_order pm_piled_order an_piled_order cd_piled_order ct_piled_order), sl_piled_order⟩) (q3_piled_order : PySem.W.codeIn K cd_piled_order "piled_order" = true) (q4_piled_order : PySem.W.keepIn K (.ref a_piled_order) = true)
    (q1_cut_and_laid : PySem.W.nsIn K mainGlobals "cut_and_laid" = some (some (.ref a_cut_and_laid))) (q2_cut_and_laid : K.lookup a_cut_and_laid = some ⟨oc_cut_and_laid, od_cut_and_laid, .func (PySem.W.fnOf "cut_and_laid" "cut_and_laid" (defArgs s_cut_and_laid) (defBody s_cut_and_laid) (defScope s_cut_and_laid) .none kV_cut_and_laid dc_cut_and_laid pm_cut_and_laid an_cut_and_laid cd_cut_and_laid ct_cut_and_laid), sl_cut_and_laid⟩) (q3_cut_and_laid : PySem.W.codeIn K cd_cut_and_laid "cut_and_laid" = true) (q4_cut_and_laid : PySem.W.keepIn K (.ref a_cut_and_laid) = true)
    (q1_stacks : PySem.W.nsIn K mainGlobals "stacks" = some (some (.ref a_stacks))) (q2_stacks : K.lookup a_stacks = some ⟨oc_stacks, od_stacks, .func (PySem.W.fnOf "stacks" "stacks" (defArgs s_stacks) (defBody s_stacks) (defScope s_stacks) .none kV_stacks dc_stacks pm_stacks an_stacks cd_stacks ct_stacks), sl_stacks⟩) (q3_stacks : PySem.W.codeIn K cd_stacks "stacks" = true) (q4_stacks : PySem.W.keepIn K (.ref a_stacks) = true)
    (q1_stacked_order : PySem.W.nsIn K mainGlobals "stacked_order" = some (some (.ref a_stacked_order))) (q2_stacked_order : K.lookup a_stacked_order = some ⟨oc_stacked_order, od_stacked_order, .func (PySem.W.fnOf "stacked_order" "stacked_order" (defArgs s_stacked_order) (defBody s_stacked_order) (defScope s_stacked_order) .none kV_stacked_order dc_stacked_order pm_stacked_order an_stacked_order cd_stacked_order ct_stacked_order), sl_stacked_order⟩) (q3_stacked_order : PySem.W.codeIn K cd_stacked_order "stacked_order" = true) (q4_stacked_order : PySem.W.keepIn K (.ref a_stacked_order) = true)
    (q1__law_bag : PySem.W.nsIn K mainGlobals "_law_bag" = some (some (.ref a__law_bag))) (q2__law_bag : K.lookup a__law_bag = some ⟨oc__law_bag, od__law_bag, .func (PySem.W.fnOf "_law_bag" "_law_bag" (defArgs s__law_bag) (defBody s__law_bag) (defScope s__law_bag) .none kV__law_bag dc__law_bag pm__law_bag an__law_bag cd__law_bag ct__law_bag), sl__law_bag⟩) (q3__law_bag : PySem.W.codeIn K cd__law_bag "_law_bag" = true) (q4__law_bag : PySem.W.keepIn K (.ref a__law_bag) = true)
    (q1__law_take : PySem.W.nsIn K mainGlobals "_law_take" = some (some (.ref a__law_take))) (q2__law_take : K.lookup a__law_take = some ⟨oc__law_take, od__law_take, .func (PySem.W.fnOf "_law_take" "_law_take" (defArgs s__law_take) (defBody s__law_take) (defScope s__law_take) .none kV__law_take dc__law_take pm__law_take an__law_take cd__law_take ct__law_take), sl__law_take⟩) (q3__law_take : PySem.W.codeIn K cd__law_take "_law_take" = true) (q4__law_take : PySem.W.keepIn K (.ref a__law_take) = true)
    (q1__law_alike : PySem.W.nsIn K mainGlobals "_law_alike" = some (some (.ref a__law_alike))) (q2__law_alike : K.lookup a__law_alike = some ⟨oc__law_alike, od__law_alike, .func (PySem.W.fnOf "_law_alike" "_law_alike" (defArgs s__law_alike) (defBody s__law_alike) (defScope s__law_alike) .none kV__law_alike dc__law_alike pm__law_alike an__law_alike cd__law_alike ct__law_alike), sl__law_alike⟩) (q3__law_alike : PySem.W.codeIn K cd__law_alike "_law_alike" = true) (q4__law_alike : PySem.W.keepIn K (.ref a__law_alike) = true)
    (q1__law_laid : PySem.W.nsIn K mainGlobals "_law_laid" = some (some (.ref a__law_laid))) (q2__law_laid : K.lookup a__law_laid = some ⟨oc__law_laid, od__law_laid, .func (PySem.W.fnOf "_law_laid" "_law_laid" (defArgs s__law_laid) (defBody s__law_laid) (defScope s__law_laid) .none kV__law_laid dc__law_laid pm__law_laid an__law_laid cd__law_laid ct__law_laid), sl__law_laid⟩) (q3__law_laid : PySem.W.codeIn K cd__law_laid "_law_laid" = true) (q4__law_laid : PySem.W.keepIn K (.ref a__law_laid) = true)
    (q1_law : PySem.W.nsIn K mainGlobals "law" = some (some (.ref a_law))) (q2_law : K.lookup a_law = some ⟨oc_law, od_law, .func (PySem.W.fnOf "law" "law" (defArgs s_law) (defBody s_law) (defScope s_law) .none kV_law dc_law pm_law an_law cd_law ct_law), sl_law⟩) (q3_law : PySem.W.codeIn K cd_law "law" = true) (q4_law : PySem.W.keepIn K (.ref a_law) = true)
    (z_abs : PySem.W.nsIn K mainGlobals "abs" = some none)
    (z_bool : PySem.W.nsIn K mainGlobals "bool" = some none)
    (z_enumerate : PySem.W.nsIn K mainGlobals "enumerate" = some none)
    (z_int : PySem.W.nsIn K mainGlobals "int" = some none)
    (z_isinstance : PySem.W.nsIn K mainGlobals "isinstance" = some none)
    (z_len : PySem.W.nsIn K mainGlobals "len" = some none)
    (z_list : PySem.W.nsIn K mainGlobals "list" = some none)
    (z_min : PySem.W.nsIn K mainGlobals "min" = some none)
    (z_range : PySem.W.nsIn K mainGlobals "range" = some none)
    (z_str : PySem.W.nsIn K mainGlobals "str" = some none)
    (z_sum : PySem.W.nsIn K mainGlobals "sum" = some none)
    (z_tuple : PySem.W.nsIn K mainGlobals "tuple" = some none)
    (z_zip : PySem.W.nsIn K mainGlobals "zip" = some none)
    : ∃ fd : FuncData, (∀ (s : Shared) (v : Value), BindsTo s fd ⟨[v], []⟩ [("script", v)]) ∧ ∀ base : Heap, K.In base → base.Ns mainGlobals mg → FnOk l.prog w K mg base CX0 7 fa fd ["script"] (SpL ⟨K, fun _ _ _ _ => False⟩) := by
  have e := hfa.symm.trans (PySem.W.mg_of X G q1_law)
  cases e
  have F__wall := fun_mk (st := s__wall) q2__wall q3__wall q4__wall
  have b__wall := F__wall.binds (ps := ["k"]) fun _ _ _ _ _ _ us hl => match us, hl with | [_], _ => rfl
  have F_is_integer := fun_mk (st := s_is_integer) q2_is_integer q3_is_integer q4_is_integer
  have b_is_integer := F_is_integer.binds (ps := ["thing"]) fun _ _ _ _ _ _ us hl => match us, hl with | [_], _ => rfl
  have F_is_within := fun_mk (st := s_is_within) q2_is_within q3_is_within q4_is_within
  have b_is_within := F_is_within.binds (ps := ["thing", "least", "most"]) fun _ _ _ _ _ _ us hl => match us, hl with | [_, _, _], _ => rfl
  have F_slots := fun_mk (st := s_slots) q2_slots q3_slots q4_slots
  have b_slots := F_slots.binds (ps := ["across", "down"]) fun _ _ _ _ _ _ us hl => match us, hl with | [_, _], _ => rfl
  have F_need_slot := fun_mk (st := s_need_slot) q2_need_slot q3_need_slot q4_need_slot
  have b_need_slot := F_need_slot.binds (ps := ["across", "down", "number"]) fun _ _ _ _ _ _ us hl => match us, hl with | [_, _, _], _ => rfl
  have F_rounded_up := fun_mk (st := s_rounded_up) q2_rounded_up q3_rounded_up q4_rounded_up
  have b_rounded_up := F_rounded_up.binds (ps := ["many", "by"]) fun _ _ _ _ _ _ us hl => match us, hl with | [_, _], _ => rfl
  have F_sheets_needed := fun_mk (st := s_sheets_needed) q2_sheets_needed q3_sheets_needed q4_sheets_needed
  have b_sheets_needed := F_sheets_needed.binds (ps := ["many", "across", "down", "first"]) fun _ _ _ _ _ _ us hl => match us, hl with | [_, _, _, _], _ => rfl
  have F_cost_of := fun_mk (st := s_cost_of) q2_cost_of q3_cost_of q4_cost_of
  have b_cost_of := F_cost_of.binds (ps := ["counts", "offer"]) fun _ _ _ _ _ _ us hl => match us, hl with | [_, _], _ => rfl
  have F_least_sheet := fun_mk (st := s_least_sheet) q2_least_sheet q3_least_sheet q4_least_sheet
  have b_least_sheet := F_least_sheet.binds (ps := ["counts", "offers"]) fun _ _ _ _ _ _ us hl => match us, hl with | [_, _], _ => rfl
  have F_piled_label := fun_mk (st := s_piled_label) q2_piled_label q3_piled_label q4_piled_label
  have b_piled_label := F_piled_label.binds (ps := ["sheet", "slot", "sheets", "many"]) fun _ _ _ _ _ _ us hl => match us, hl with | [_, _, _, _], _ => rfl
  have F_printed_on := fun_mk (st := s_printed_on) q2_printed_on q3_printed_on q4_printed_on
  have b_printed_on := F_printed_on.binds (ps := ["sheets", "slots_many", "first", "many"]) fun _ _ _ _ _ _ us hl => match us, hl with | [_, _, _, _], _ => rfl
  have F_piled_order := fun_mk (st := s_piled_order) q2_piled_order q3_piled_order q4_piled_order
  have b_piled_order := F_piled_order.binds (ps := ["many", "across", "down"]) fun _ _ _ _ _ _ us hl => match us, hl with | [_, _, _], _ => rfl
  have F_cut_and_laid := fun_mk (st := s_cut_and_laid) q2_cut_and_laid q3_cut_and_laid q4_cut_and_laid
  have b_cut_and_laid := F_cut_and_laid.binds (ps := ["printed"]) fun _ _ _ _ _ _ us hl => match us, hl with | [_], _ => rfl
  have F_stacks := fun_mk (st := s_stacks) q2_stacks q3_stacks q4_stacks
  have b_stacks := F_stacks.binds (ps := ["many", "across", "down", "high"]) fun _ _ _ _ _ _ us hl => match us, hl with | [_, _, _, _], _ => rfl
  have F_stacked_order := fun_mk (st := s_stacked_order) q2_stacked_order q3_stacked_order q4_stacked_order
  have b_stacked_order := F_stacked_order.binds (ps := ["many", "across", "down", "high"]) fun _ _ _ _ _ _ us hl => match us, hl with | [_, _, _, _], _ => rfl
  have F__law_bag := fun_mk (st := s__law_bag) q2__law_bag q3__law_bag q4__law_bag
  have b__law_bag := F__law_bag.binds (ps := ["script"]) fun _ _ _ _ _ _ us hl => match us, hl with | [_], _ => rfl
  have F__law_take := fun_mk (st := s__law_take) q2__law_take q3__law_take q4__law_take
  have b__law_take := F__law_take.binds (ps := ["bag", "many"]) fun _ _ _ _ _ _ us hl => match us, hl with | [_, _], _ => rfl
  have F__law_alike := fun_mk (st := s__law_alike) q2__law_alike q3__law_alike q4__law_alike
  have b__law_alike := F__law_alike.binds (ps := ["found", "due"]) fun _ _ _ _ _ _ us hl => match us, hl with | [_, _], _ => rfl
  have F__law_laid := fun_mk (st := s__law_laid) q2__law_laid q3__law_laid q4__law_laid
  have b__law_laid := F__law_laid.binds (ps := ["printed"]) fun _ _ _ _ _ _ us hl => match us, hl with | [_], _ => rfl
  have F_law := fun_mk (st := s_law) q2_law q3_law q4_law
  have b_law := F_law.binds (ps := ["script"]) fun _ _ _ _ _ _ us hl => match us, hl with | [_], _ => rfl
  have T : Txt K mg a__wall a_is_integer a_is_within a_slots a_need_slot a_rounded_up a_sheets_needed a_cost_of a_least_sheet a_piled_label a_printed_on a_piled_order a_cut_and_laid a_stacks a_stacked_order a__law_bag a__law_take a__law_alike a__law_laid fa _ _ _ _ _ _ _ _ _ _ _ _ _ _ _ _ _ _ _ _ := ⟨F__wall, PySem.W.mg_of X G q1__wall, b__wall, F_is_integer, PySem.W.mg_of X G q1_is_integer, b_is_integer, F_is_within, PySem.W.mg_of X G q1_is_within, b_is_within, F_slots, PySem.W.mg_of X G q1_slots, b_slots, F_need_slot, PySem.W.mg_of X G q1_need_slot, b_need_slot, F_rounded_up, PySem.W.mg_of X G q1_rounded_up, b_rounded_up, F_sheets_needed, PySem.W.mg_of X G q1_sheets_needed, b_sheets_needed, F_cost_of, PySem.W.mg_of X G q1_cost_of, b_cost_of, F_least_sheet, PySem.W.mg_of X G q1_least_sheet, b_least_sheet, F_piled_label, PySem.W.mg_of X G q1_piled_label, b_piled_label, F_printed_on, PySem.W.mg_of X G q1_printed_on, b_printed_on, F_piled_order, PySem.W.mg_of X G q1_piled_order, b_piled_order, F_cut_and_laid, PySem.W.mg_of X G q1_cut_and_laid, b_cut_and_laid, F_stacks, PySem.W.mg_of X G q1_stacks, b_stacks, F_stacked_order, PySem.W.mg_of X G q1_stacked_order, b_stacked_order, F__law_bag, PySem.W.mg_of X G q1__law_bag, b__law_bag, F__law_take, PySem.W.mg_of X G q1__law_take, b__law_take, F__law_alike, PySem.W.mg_of X G q1__law_alike, b__law_alike, F__law_laid, PySem.W.mg_of X G q1__law_laid, b__law_laid, F_law, PySem.W.mg_of X G q1_law, b_law, PySem.W.mg_none_of X G z_abs, PySem.W.mg_none_of X G z_bool, PySem.W.mg_none_of X G z_enumerate, PySem.W.mg_none_of X G z_int, PySem.W.mg_none_of X G z_isinstance, PySem.W.mg_none_of X G z_len, PySem.W.mg_none_of X G z_list, PySem.W.mg_none_of X G z_min, PySem.W.mg_none_of X G z_range, PySem.W.mg_none_of X G z_str, PySem.W.mg_none_of X G z_sum, PySem.W.mg_none_of X G z_tuple, PySem.W.mg_none_of X G z_zip⟩
  exact ⟨_, fun s v => .of_eq rfl, fun base _ _ => ok_law (g := ⟨K, fun _ _ _ _ => False⟩) T⟩
end P51
open PySem PySem.W PyProof.Rows
set_option maxRecDepth 100000 in
set_option maxHeartbeats 0 in
theorem PySem.Challenge.cw_mergedmail_k51_whole_stacks_and_offers_o_holds : PySem.Challenge.rw_mergedmail_k51_whole_stacks_and_offers_o.Holds := by
  w_on; o_law; k_head; (case hw => w_witness2)
  k_fill
  refine L2.walk_of (l := PySem.Challenge.rw_mergedmail_k51_whole_stacks_and_offers_o) (n := 63) (k := 7) (x := "script") (CX := fun _ => L2.CX0) (sp := fun w => PF.SpL ⟨_, fun _ _ _ _ => False⟩) rfl (by decide) rfl ⟨rfl, by decide, by decide⟩ (fun w h Y => PySem.W.kIn_of Y) ?F (fun _ _ a ns hl _ hS => ⟨a, ns, rfl, hS, hl, fun _ => rfl⟩) (fun _ _ _ _ _ h => h)
  case F =>
    intro w mg fa h KX G hmg
    refine' P51.all_mk KX G hmg ?q1__wall ?q2__wall ?q3__wall ?q4__wall ?q1_is_integer ?q2_is_integer ?q3_is_integer ?q4_is_integer ?q1_is_within ?q2_is_within ?q3_is_within ?q4_is_within ?q1_slots ?q2_slots ?q3_slots ?q4_slots ?q1_need_slot ?q2_need_slot ?q3_need_slot ?q4_need_slot ?q1_rounded_up ?q2_rounded_up ?q3_rounded_up ?q4_rounded_up ?q1_sheets_needed ?q2_sheets_needed ?q3_sheets_needed ?q4_sheets_needed ?q1_cost_of ?q2_cost_of ?q3_cost_of ?q4_cost_of ?q1_least_sheet ?q2_least_sheet ?q3_least_sheet ?q4_least_sheet ?q1_piled_label ?q2_piled_label ?q3_piled_label ?q4_piled_label ?q1_printed_on ?q2_printed_on ?q3_printed_on ?q4_printed_on ?q1_piled_order ?q2_piled_order ?q3_piled_order ?q4_piled_order ?q1_cut_and_laid ?q2_cut_and_laid ?q3_cut_and_laid ?q4_cut_and_laid ?q1_stacks ?q2_stacks ?q3_stacks ?q4_stacks ?q1_stacked_order ?q2_stacked_order ?q3_stacked_order ?q4_stacked_order ?q1__law_bag ?q2__law_bag ?q3__law_bag ?q4__law_bag ?q1__law_take ?q2__law_take ?q3__law_take ?q4__law_take ?q1__law_alike ?q2__law_alike ?q3__law_alike ?q4__law_alike ?q1__law_laid ?q2__law_laid ?q3__law_laid ?q4__law_laid ?q1_law ?q2_law ?q3_law ?q4_law ?z_abs ?z_bool ?z_enumerate ?z_int ?z_isinstance ?z_len ?z_list ?z_min ?z_range ?z_str ?z_sum ?z_tuple ?z_zip
    (case q1__wall => k_is); (case q2__wall => k_is); (case q3__wall => k_is); (case q4__wall => k_is); (case q1_is_integer => k_is); (case q2_is_integer => k_is); (case q3_is_integer => k_is); (case q4_is_integer => k_is); (case q1_is_within => k_is); (case q2_is_within => k_is); (case q3_is_within => k_is); (case q4_is_within => k_is); (case q1_slots => k_is); (case q2_slots => k_is); (case q3_slots => k_is); (case q4_slots => k_is); (case q1_need_slot => k_is); (case q2_need_slot => k_is); (case q3_need_slot => k_is); (case q4_need_slot => k_is); (case q1_rounded_up => k_is); (case q2_rounded_up => k_is); (case q3_rounded_up => k_is); (case q4_rounded_up => k_is); (case q1_sheets_needed => k_is); (case q2_sheets_needed => k_is); (case q3_sheets_needed => k_is); (case q4_sheets_needed => k_is); (case q1_cost_of => k_is); (case q2_cost_of => k_is); (case q3_cost_of => k_is); (case q4_cost_of => k_is); (case q1_least_sheet => k_is); (case q2_least_sheet => k_is); (case q3_least_sheet => k_is); (case q4_least_sheet => k_is); (case q1_piled_label => k_is); (case q2_piled_label => k_is); (case q3_piled_label => k_is); (case q4_piled_label => k_is); (case q1_printed_on => k_is); (case q2_printed_on => k_is); (case q3_printed_on => k_is); (case q4_printed_on => k_is); (case q1_piled_order => k_is); (case q2_piled_order => k_is); (case q3_piled_order => k_is); (case q4_piled_order => k_is); (case q1_cut_and_laid => k_is); (case q2_cut_and_laid => k_is); (case q3_cut_and_laid => k_is); (case q4_cut_and_laid => k_is); (case q1_stacks => k_is); (case q2_stacks => k_is); (case q3_stacks => k_is); (case q4_stacks => k_is); (case q1_stacked_order => k_is); (case q2_stacked_order => k_is); (case q3_stacked_order => k_is); (case q4_stacked_order => k_is); (case q1__law_bag => k_is); (case q2__law_bag => k_is); (case q3__law_bag => k_is); (case q4__law_bag => k_is); (case q1__law_take => k_is); (case q2__law_take => k_is); (case q3__law_take => k_is); (case q4__law_take => k_is); (case q1__law_alike => k_is); (case q2__law_alike => k_is); (case q3__law_alike => k_is); (case q4__law_alike => k_is); (case q1__law_laid => k_is); (case q2__law_laid => k_is); (case q3__law_laid => k_is); (case q4__law_laid => k_is); (case q1_law => k_is); (case q2_law => k_is); (case q3_law => k_is); (case q4_law => k_is); (case z_abs => k_is); (case z_bool => k_is); (case z_enumerate => k_is); (case z_int => k_is); (case z_isinstance => k_is); (case z_len => k_is); (case z_list => k_is); (case z_min => k_is); (case z_range => k_is); (case z_str => k_is); (case z_sum => k_is); (case z_tuple => k_is); (case z_zip => k_is)
