import PyProof.Rows.All
import HandS.ForMost
import HandS.Zip
import HandS.MapObj
import KE.KDictZip
import PyProof.FactsSeq
import PyProof.ListNew
import HandS.Conv
import HandS.Iter
import KE.GoesMore
import KE.GoesEnum
import HandS.List
import HandS.SortInts
import KE.SortData
import KE.DataMinMax
import PyProof.P3Eq
import Wide.All
import OpenK.AllK
import Wide.FinOn
import HandS.IsInst
import HandS.Walk
import HandS.Flow
import HandS.TupAny
import HandS.Lambda
import KE.KNest
import HandS.TupMul
import HandS.Style
import HandS.Deep
import HandS.DictComp
import HandS.Small
import HandS.ExcInit
import HandS.ExcField
import HandS.WordsExc
import HandS.CallSlots
import KE.KExcSuper
import KE.KSuper
import HandS.TryMany
import HandS.EndTab
import HandS.Strs
import HandS.Star
import HandS.TupSets
import HandS.SetTxt0
import PyProof.Rows.StrRev
import KE.DataFind
import HandS.SetFor
import KE.SortCalls
import PyProof.ReprRoads
import HandS.TryOnly
import HandS.ExcOwn
import HandS.FStr
import PyProof.ExcBaseAll.ValueError
import PySem.Challenge.RW_mergedmail_k53_prefixes_of_posts
set_option Elab.async false
set_option linter.all false
set_option maxRecDepth 100000
set_option maxHeartbeats 4000000
/-! list(zip(xs, ys)) of two lists or of two tuples; each pair a new tuple, all of them kept. -/
namespace ZL
open PySem PySem.Spec PyProof.Rows L2
theorem zip_no_len : typeLookup (.type "zip") "__len__" = pure none := by rw [typeLookup_type, builtinLookup_eq_fast]; kernel_rfl
theorem zip_no_hint : typeLookup (.type "zip") "__length_hint__" = pure none := by rw [typeLookup_type, builtinLookup_eq_fast]; kernel_rfl

section
variable {prog : Program} {w : World} {A : Around} {E : Value → Shared → Prop} {s : Shared}
/-- the iterators i1, i2 over the tuples l1, l2 stand at the k-th place -/
structure Two (h : Heap) (z TI TO i1 i2 l1 l2 : Addr) (k : Nat) (xs ys : Array Value) : Prop where
  D : ZipApart z TI TO i1 i2 l1 l2
  ti : IsPair h TI (.ref i1) (.ref i2)
  to : ∃ x y, IsPair h TO x y
  p1 : h.IsTupleIter i1 l1 k
  p2 : h.IsTupleIter i2 l2 k
  q1 : h.IsTuple l1 xs
  q2 : h.IsTuple l2 ys
theorem heldT_item {z TI TO T i1 i2 l1 l2 : Addr} {f : Bool} {oT : Obj} {k : Nat} {xs ys : Array Value} {x y : Value} {Q : Value → Shared → Prop}
    (Z : IsZipHeld s.heap z TI TO T f) (hT : s.heap.get? T = some oT) (S : Two s.heap z TI TO i1 i2 l1 l2 k xs ys) (hx : xs[k]? = some x) (hy : ys[k]? = some y)
    (fin : ∀ g, IsZipHeld g z TI TO T true → g.IsTupleIter i1 l1 (k + 1) → g.IsTupleIter i2 l2 (k + 1) → IsPair g s.heap.objs.size x y → g.objs.size = s.heap.objs.size + 1 →
      (∀ c o, c ≠ z → c ≠ i1 → c ≠ i2 → s.heap.get? c = some o → g.get? c = some o) → Q (.ref s.heap.objs.size) { s with heap := g }) :
    wpAny (model prog w) A (Builtin.«zip.__next__» ⟨[.ref z], []⟩) (fun r s' => ∃ v, r = .done (.ret v) ∧ Q v s') E s := by
  have D := S.D
  show wpAny _ _ (field (.ref z) 2 >>= _) _ _ s
  refine wpAny_bind (wpAny_field Z rfl (x := .bool false) rfl ?_)
  show wpAny _ _ (field (.ref z) 3 >>= _) _ _ s
  refine wpAny_bind (wpAny_field Z rfl (x := .ref TI) rfl ?_)
  refine wpAny_bind (wpAny_seqItems S.ti rfl ?_)
  show wpAny _ _ (Builtin.SmallTypes.ownedTupleIsFree (.ref z) >>= _) _ _ s
  refine wpAny_bind (wpAny_tupleHeld_zip Z hT fun g1 Z1 b1 => ?_)
  simp only [Bool.false_eq_true, if_false]
  refine wpAny_bind ?_
  rw [← Array.forIn_toList]
  simp only [List.forIn_cons, List.forIn_nil]
  refine wpAny_bind (wpAny_bind (wpAny_holding ?_))
  show wpAny _ _ (Builtin.SmallTypes.nextOf (.ref i1) >>= _) _ _ _
  have P1 : g1.IsTupleIter i1 l1 k := S.p1.at fun o e => b1.extBut _ _ D.i1z e
  have P2 : g1.IsTupleIter i2 l2 k := S.p2.at fun o e => b1.extBut _ _ D.i2z e
  have Q1 : g1.IsTuple l1 xs := by
    obtain ⟨o, e, r⟩ := S.q1
    exact ⟨o, b1.extBut _ _ D.l1z e, r⟩
  have Q2 : g1.IsTuple l2 ys := by
    obtain ⟨o, e, r⟩ := S.q2
    exact ⟨o, b1.extBut _ _ D.l2z e, r⟩
  refine wpAny_bind (RZ.nextOf_tuple_item (s := { s with heap := g1 }) P1 Q1 hx fun g2 n1 b2 => wpAny_pure ?_)
  refine wpAny_pure ?_
  refine wpAny_bind (wpAny_bind (wpAny_holding ?_))
  show wpAny _ _ (Builtin.SmallTypes.nextOf (.ref i2) >>= _) _ _ _
  have P2' : g2.IsTupleIter i2 l2 k := P2.at fun o e => b2.extBut _ _ D.i12.symm e
  have Q2' : g2.IsTuple l2 ys := by
    obtain ⟨o, e, r⟩ := Q2
    exact ⟨o, b2.extBut _ _ D.l2i1 e, r⟩
  refine wpAny_bind (RZ.nextOf_tuple_item (s := { s with heap := g2 }) P2' Q2' hy fun g3 n2 b3 => wpAny_pure ?_)
  refine wpAny_pure (wpAny_pure ?_)
  show wpAny _ _ (newTuple [x, y] >>= _) _ _ _
  refine wpAny_bind (wpAny_newTuple ?_)
  have sz : g3.objs.size = s.heap.objs.size := by rw [b3.1, b2.1, b1.1]
  have Z3 : IsZipHeld g3 z TI TO T true := b3.extBut _ _ D.i2z.symm (b2.extBut _ _ D.i1z.symm Z1)
  have kp : ∀ c o, c ≠ z → c ≠ i1 → c ≠ i2 → s.heap.get? c = some o → g3.get? c = some o := fun c o c1 c2 c3 e => b3.extBut _ _ c3 (b2.extBut _ _ c2 (b1.extBut _ _ c1 e))
  have m1 : g3.IsTupleIter i1 l1 (k + 1) := n1.at fun o e => b3.extBut _ _ D.i12 e
  refine wpAny_pure ⟨_, rfl, ?_⟩
  show Q (.ref g3.objs.size) _
  have hp : IsPair (g3.push { cls := .type "tuple", data := .seq #[x, y] }) g3.objs.size x y := Heap.get?_push_size _ rfl
  have s4 : (g3.push { cls := .type "tuple", data := .seq #[x, y] }).objs.size = g3.objs.size + 1 := Heap.size_push ..
  rw [sz] at hp s4 ⊢
  exact fin _ (Heap.get?_push_of_some _ Z3) (m1.at fun o e => Heap.get?_push_of_some _ e) (n2.at fun o e => Heap.get?_push_of_some _ e) hp s4 fun c o c1 c2 c3 e => Heap.get?_push_of_some _ (kp c o c1 c2 c3 e)
theorem heldT_end {z TI TO T i1 i2 l1 l2 : Addr} {f : Bool} {oT : Obj} {k : Nat} {xs ys : Array Value} {Q : Fin → Shared → Prop} (hh : A.handled = none)
    (Z : IsZipHeld s.heap z TI TO T f) (hT : s.heap.get? T = some oT) (S : Two s.heap z TI TO i1 i2 l1 l2 k xs ys) (stop : xs[k]? = none ∨ ys[k]? = none)
    (fin : ∀ g e, (∀ c o, c ≠ z → c ≠ i1 → c ≠ i2 → s.heap.get? c = some o → g.get? c = some o) → (∃ o, g.get? e = some o ∧ o.cls = .type "StopIteration") → E (.ref e) { s with heap := g }) :
    wpAny (model prog w) A (Builtin.«zip.__next__» ⟨[.ref z], []⟩) Q E s := by
  have D := S.D
  show wpAny _ _ (field (.ref z) 2 >>= _) _ _ s
  refine wpAny_bind (wpAny_field Z rfl (x := .bool false) rfl ?_)
  show wpAny _ _ (field (.ref z) 3 >>= _) _ _ s
  refine wpAny_bind (wpAny_field Z rfl (x := .ref TI) rfl ?_)
  refine wpAny_bind (wpAny_seqItems S.ti rfl ?_)
  show wpAny _ _ (Builtin.SmallTypes.ownedTupleIsFree (.ref z) >>= _) _ _ s
  refine wpAny_bind (wpAny_tupleHeld_zip Z hT fun g1 Z1 b1 => ?_)
  simp only [Bool.false_eq_true, if_false]
  refine wpAny_bind ?_
  rw [← Array.forIn_toList]
  simp only [List.forIn_cons, List.forIn_nil]
  refine wpAny_bind (wpAny_bind (wpAny_holding ?_))
  show wpAny _ _ (Builtin.SmallTypes.nextOf (.ref i1) >>= _) _ _ _
  have P1 : g1.IsTupleIter i1 l1 k := S.p1.at fun o e => b1.extBut _ _ D.i1z e
  have P2 : g1.IsTupleIter i2 l2 k := S.p2.at fun o e => b1.extBut _ _ D.i2z e
  have Q1 : g1.IsTuple l1 xs := by
    obtain ⟨o, e, r⟩ := S.q1
    exact ⟨o, b1.extBut _ _ D.l1z e, r⟩
  have Q2 : g1.IsTuple l2 ys := by
    obtain ⟨o, e, r⟩ := S.q2
    exact ⟨o, b1.extBut _ _ D.l2z e, r⟩
  cases hx : xs[k]? with
  | none =>
    refine wpAny_bind (RZ.nextOf_tuple_end (s := { s with heap := g1 }) hh P1 Q1 hx fun g2 e b2 he => ?_)
    exact fin g2 e (fun c o c1 c2 _ q => b2 _ _ c2 (b1.extBut _ _ c1 q)) he
  | some x =>
    have hy : ys[k]? = none := by
      rcases stop with q | q
      · rw [hx] at q; cases q
      · exact q
    refine wpAny_bind (RZ.nextOf_tuple_item (s := { s with heap := g1 }) P1 Q1 hx fun g2 n1 b2 => wpAny_pure ?_)
    refine wpAny_pure ?_
    refine wpAny_bind (wpAny_bind (wpAny_holding ?_))
    show wpAny _ _ (Builtin.SmallTypes.nextOf (.ref i2) >>= _) _ _ _
    have P2' : g2.IsTupleIter i2 l2 k := P2.at fun o e => b2.extBut _ _ D.i12.symm e
    have Q2' : g2.IsTuple l2 ys := by
      obtain ⟨o, e, r⟩ := Q2
      exact ⟨o, b2.extBut _ _ D.l2i1 e, r⟩
    refine wpAny_bind (RZ.nextOf_tuple_end (s := { s with heap := g2 }) hh P2' Q2' hy fun g3 e b3 he => ?_)
    exact fin g3 e (fun c o c1 c2 c3 q => b3 _ _ c3 (b2.extBut _ _ c2 (b1.extBut _ _ c1 q))) he
theorem heldT_next {z TI TO T i1 i2 l1 l2 : Addr} {f : Bool} {oT : Obj} {k : Nat} {xs ys : Array Value} {x y : Value} {Q : Option Value → Shared → Prop}
    (Z : IsZipHeld s.heap z TI TO T f) (hT : s.heap.get? T = some oT) (S : Two s.heap z TI TO i1 i2 l1 l2 k xs ys) (hx : xs[k]? = some x) (hy : ys[k]? = some y)
    (fin : ∀ g, IsZipHeld g z TI TO T true → g.IsTupleIter i1 l1 (k + 1) → g.IsTupleIter i2 l2 (k + 1) → IsPair g s.heap.objs.size x y → g.objs.size = s.heap.objs.size + 1 →
      (∀ c o, c ≠ z → c ≠ i1 → c ≠ i2 → s.heap.get? c = some o → g.get? c = some o) → Q (some (.ref s.heap.objs.size)) { s with heap := g }) : wpAny (model prog w) A (pyNext (.ref z)) Q E s := by
  have ty : s.TypeIs (.ref z) "zip" := ⟨_, Z, rfl⟩
  unfold pyNext
  exact wpAny_bind (wpAny_attempt (wpAny_callSpecial?_slot (name := Str.ofString "__next__") ty F.slot_zip_next
    (wpAny_call_entry F.slot_zip_next ty F.entry_zip_next (heldT_item Z hT S hx hy fun g a1 a2 a3 a4 a5 a6 => wpAny_pure (fin g a1 a2 a3 a4 a5 a6)) (F.args_zip_next_1 _))))
theorem heldT_stop {z TI TO T i1 i2 l1 l2 : Addr} {f : Bool} {oT : Obj} {k : Nat} {xs ys : Array Value} {Q : Option Value → Shared → Prop} (hh : A.handled = none)
    (Z : IsZipHeld s.heap z TI TO T f) (hT : s.heap.get? T = some oT) (S : Two s.heap z TI TO i1 i2 l1 l2 k xs ys) (stop : xs[k]? = none ∨ ys[k]? = none)
    (fin : ∀ g, (∀ c o, c ≠ z → c ≠ i1 → c ≠ i2 → s.heap.get? c = some o → g.get? c = some o) → Q none { s with heap := g }) : wpAny (model prog w) A (pyNext (.ref z)) Q E s := by
  have ty : s.TypeIs (.ref z) "zip" := ⟨_, Z, rfl⟩
  unfold pyNext
  refine wpAny_bind (wpAny_attempt (wpAny_callSpecial?_slot (name := Str.ofString "__next__") ty F.slot_zip_next
    (wpAny_call_entry F.slot_zip_next ty F.entry_zip_next (heldT_end hh Z hT S stop fun g e kp he => ?_) (F.args_zip_next_1 _))))
  obtain ⟨o, ho, hc⟩ := he
  refine wpAny_bind (wpAny_isInstance (T := "StopIteration") (b := true) ⟨o, ho, hc⟩ isSubtype_stop ?_)
  exact wpAny_pure (fin _ kp)
end
end ZL
namespace ZL
open PySem PySem.Spec PyProof.Rows L2
/-- n pairs of us come out of the zip at z, the list at q being filled meanwhile -/
structure ZW (P : Program) (w : World) (z q : Addr) (ch : List Addr) (n : Nat) (us : Nat → Value × Value) (Z : Nat → Heap → Prop) : Prop where
  ty : ∀ i h, Z i h → ∃ o, h.get? z = some o ∧ o.cls = .type "zip"
  lt : ∀ i h, Z i h → ∀ b ∈ ch, b < h.objs.size
  keep : ∀ i h h', Z i h → (∀ c o, c ≠ q → h.get? c = some o → h'.get? c = some o) → Z i h'
  item : ∀ (A : Around) (E : Value → Shared → Prop) (s : Shared) (i : Nat) (Q : Option Value → Shared → Prop), i < n → q < s.heap.objs.size → Z i s.heap →
    (∀ g, Z (i + 1) g → IsPair g s.heap.objs.size (us i).1 (us i).2 → (∀ c o, c ∉ ch → s.heap.get? c = some o → g.get? c = some o) → Q (some (.ref s.heap.objs.size)) { s with heap := g }) → wpAny (model P w) A (pyNext (.ref z)) Q E s
  stop : ∀ (A : Around) (E : Value → Shared → Prop) (s : Shared) (Q : Option Value → Shared → Prop), A.handled = none → Z n s.heap →
    (∀ g, (∀ c o, c ∉ ch → s.heap.get? c = some o → g.get? c = some o) → Q none { s with heap := g }) → wpAny (model P w) A (pyNext (.ref z)) Q E s
  iter : ∀ (A : Around) (E : Value → Shared → Prop) (s : Shared) (Q : Value → Shared → Prop), Z 0 s.heap → Q (.ref z) s → wpAny (model P w) A (pyIter (.ref z)) Q E s
section
variable {X : Cx} {pins : List (Addr × Obj)} {σ : L2.St} {s : Shared} {z q : Addr} {ch : List Addr} {n : Nat} {us : Nat → Value × Value} {Z : Nat → Heap → Prop} {A1 : Around}
theorem fp_keep {H H' : Hp} {b : Addr} (f : FpOk X pins H b) (e : H' b = none) : FpOk X pins H' b := ⟨e, f.2⟩
theorem zl_loop {vs : Nat → V × V} {Pv : Nat → List V → Hp → Prop} {Rs : Result → Shared → Prop} (zw : ZW X.prog X.w z q ch n us Z) (hA : A1.in1.handled = none)
    (rel : ∀ i, i < n → L2.RelV (vs i).1 (us i).1 ∧ L2.RelV (vs i).2 (us i).2) (hn : n ≤ sizeLine)
    (next : ∀ i acc H p, i < n → Pv i acc H → H q = some (.lst acc) → H p = none → Pv (i + 1) (acc ++ [.ref p]) (upd (upd H p (.tup [(vs i).1, (vs i).2])) q (.lst (acc ++ [.ref p]))))
    (done : ∀ acc H s, Inv X pins σ H s → Pv n acc H → H q = some (.lst acc) → Rs (.ok (.ret .none)) s) :
    ∀ (m i : Nat) (acc : List V) (H : Hp) (s : Shared), m + i = n → acc.length = i → Inv X pins σ H s → Z i s.heap → (∀ b ∈ ch, FpOk X pins H b) → H q = some (.lst acc) → Pv i acc H →
      codeAny (model X.prog X.w) A1 (.builtin "list.extend.loop" ⟨[.ref q, .ref z, .none], []⟩) Rs s := by
  intro m
  induction m with
  | zero =>
    intro i acc H s hm hl I hz hf hq hP
    have e : i = n := by omega
    subst e
    refine codeAny_builtin PySem.F.entry_extend_loop ?_
    rw [Around.under_plainId PySem.F.plain_extend_loop _]
    show wpAny _ A1.in1 (pyNext (.ref z) >>= _) _ _ s
    refine wpAny_bind (zw.stop _ _ s _ hA hz fun g kp => ?_)
    exact wpAny_pure (done acc H _ (I.turnedL (t' := s.toks) kp hf) hP hq)
  | succ m ih =>
    intro i acc H s hm hl I hz hf hq hP
    have hi : i < n := by omega
    refine codeAny_builtin PySem.F.entry_extend_loop ?_
    rw [Around.under_plainId PySem.F.plain_extend_loop _]
    show wpAny _ A1.in1 (pyNext (.ref z) >>= _) _ _ s
    have hqlt : q < s.heap.objs.size := I.hok.lt hq
    refine wpAny_bind (zw.item _ _ s i _ hi hqlt hz fun g hz' hT kp => ?_)
    have fresh : H s.heap.objs.size = none := I.hok.fresh (Nat.le_refl _)
    obtain ⟨r1, r2⟩ := rel i hi
    have I1 : Inv X pins σ (upd H s.heap.objs.size (.tup [(vs i).1, (vs i).2])) { s with heap := g } :=
      I.turnedNew (t' := s.toks) kp hf (Nat.le_refl _) ⟨by show 2 ≤ sizeLine; decide, [(us i).1, (us i).2], .cons r1 (.cons r2 .nil), ⟨_, hT, rfl, _, rfl⟩⟩
    have hq1 : upd H s.heap.objs.size (.tup [(vs i).1, (vs i).2]) q = some (.lst acc) := by rw [upd_ne (ne_of_none hq fresh)]; exact hq
    show wpAny _ A1.in1 (updateSeq q (·.push (.ref s.heap.objs.size)) >>= _) _ _ _
    obtain ⟨_, its, k, rv, hlen, e⟩ := I1.lstM hq1
    have hlt : its.length < sizeLine := by omega
    refine wpAny_bind (wpAny_updateSeq e rfl (wpAny_pure ⟨plainId_quiet PySem.F.plain_extend_loop _, ?_⟩) (by rw [List.size_toArray]; omega) (by show (its.toArray.push _).size ≤ sizeLine + 1; rw [Array.size_push, List.size_toArray]; omega))
    have I2 := I1.lset (f := (·.push (Value.ref s.heap.objs.size))) (its' := its ++ [.ref s.heap.objs.size]) (ys := acc ++ [.ref s.heap.objs.size]) (t' := s.toks) hq1 e (by simp) (rv.append (.cons (show L2.RelV (V.ref s.heap.objs.size) (Value.ref s.heap.objs.size) from rfl) .nil)) (by rw [List.length_append, List.length_singleton]; omega)
    refine ih (i + 1) (acc ++ [.ref s.heap.objs.size]) _ _ (by omega) (by simp [hl]) I2 (zw.keep _ _ _ hz' fun c o hc ho => ?_) (fun b hb => fp_keep (hf b hb) ?_) upd_same (next i acc H _ hi hP hq fresh)
    · exact (Heap.get?_update_other g _ (Ne.symm hc)).trans ho
    · have hb' : b < s.heap.objs.size := zw.lt i _ hz b hb
      have hbq : b ≠ q := fun z' => by have := (hf b hb).1; rw [z', hq] at this; cases this
      rw [upd_ne hbq, upd_ne (Nat.ne_of_lt hb')]
      exact (hf b hb).1
end
end ZL
namespace ZL
open PySem PySem.Spec PyProof.Rows L2
/-- the zip before its first pair, or with its tuple T out -/
def Out (h : Heap) (z TI TO q : Addr) (ch : List Addr) (i : Nat) : Prop :=
  (i = 0 ∧ IsZip h z TI TO .none) ∨ ∃ (T : Addr) (f : Bool) (oT : Obj), 0 < i ∧ IsZipHeld h z TI TO T f ∧ h.get? T = some oT ∧ T ∉ ch ∧ T ≠ q
theorem Out.keep {h h' : Heap} {z TI TO q : Addr} {ch : List Addr} {i : Nat} (o : Out h z TI TO q ch i) (hz : z ≠ q) (k : ∀ c o, c ≠ q → h.get? c = some o → h'.get? c = some o) : Out h' z TI TO q ch i := by
  rcases o with ⟨e, o⟩ | ⟨T, f, oT, o0, o1, o2, o3, o4⟩
  · exact .inl ⟨e, k _ _ hz o⟩
  · exact .inr ⟨T, f, oT, o0, k _ _ hz o1, k _ _ o4 o2, o3, o4⟩
structure LZ (xs ys : Array Value) (z TI TO i1 i2 l1 l2 q : Addr) (i : Nat) (h : Heap) : Prop where
  out : Out h z TI TO q [z, TI, TO, i1, i2] i
  ti : IsPair h TI (.ref i1) (.ref i2)
  to : ∃ x y, IsPair h TO x y
  p1 : h.IsListIter i1 l1 i
  p2 : h.IsListIter i2 l2 i
  q1 : h.IsList l1 xs
  q2 : h.IsList l2 ys
structure TZ (xs ys : Array Value) (z TI TO i1 i2 l1 l2 q : Addr) (i : Nat) (h : Heap) : Prop where
  out : Out h z TI TO q [z, TI, TO, i1, i2] i
  ti : IsPair h TI (.ref i1) (.ref i2)
  to : ∃ x y, IsPair h TO x y
  p1 : h.IsTupleIter i1 l1 i
  p2 : h.IsTupleIter i2 l2 i
  q1 : h.IsTuple l1 xs
  q2 : h.IsTuple l2 ys
theorem out_zip {h : Heap} {z TI TO q : Addr} {ch : List Addr} {i : Nat} (o : Out h z TI TO q ch i) : ∃ u, h.get? z = some u ∧ u.cls = .type "zip" := by
  rcases o with ⟨_, o⟩ | ⟨T, f, oT, o0, o1, _⟩
  · exact ⟨_, o, rfl⟩
  · exact ⟨_, o1, rfl⟩
theorem out_iter {P : Program} {w : World} {A : Around} {E : Value → Shared → Prop} {s : Shared} {Q : Value → Shared → Prop} {z TI TO q : Addr} {ch : List Addr} (o : Out s.heap z TI TO q ch 0) (h : Q (.ref z) s) : wpAny (model P w) A (pyIter (.ref z)) Q E s := by
  rcases o with ⟨_, o⟩ | ⟨T, f, oT, o0, _⟩
  · exact wpAny_pyIter_zip o h
  · exact absurd o0 (Nat.lt_irrefl _)
theorem big_ne {a b : Nat} (h : a < b) (e : b = a) : False := absurd (e ▸ h) (Nat.lt_irrefl _)
theorem apart_ch {z TI TO i1 i2 l1 l2 c : Addr} (hc : c ∉ [z, TI, TO, i1, i2]) : c ≠ z ∧ c ≠ TI ∧ c ≠ TO ∧ c ≠ i1 ∧ c ≠ i2 := by
  refine ⟨fun e => hc ?_, fun e => hc ?_, fun e => hc ?_, fun e => hc ?_, fun e => hc ?_⟩ <;> simp [e]
theorem zw_list {P : Program} {w : World} {xs ys : Array Value} {z TI TO i1 i2 l1 l2 q : Addr} (D : ZipApart z TI TO i1 i2 l1 l2) (hq : q ∉ [z, TI, TO, i1, i2, l1, l2]) :
    ZW P w z q [z, TI, TO, i1, i2] (min xs.size ys.size) (fun i => (xs.getD i .none, ys.getD i .none)) (LZ xs ys z TI TO i1 i2 l1 l2 q) where
  ty := fun i h s => out_zip s.out
  lt := fun i h s b hb => by
    have e' : b = z ∨ b = TI ∨ b = TO ∨ b = i1 ∨ b = i2 := by simpa using hb
    rcases e' with e | e | e | e | e
    · obtain ⟨u, e2, _⟩ := out_zip s.out; rw [e]; exact Heap.lt_size e2
    · rw [e]; exact Heap.lt_size s.ti
    · obtain ⟨x, y, e2⟩ := s.to; rw [e]; exact Heap.lt_size e2
    · obtain ⟨o, e2, _⟩ := s.p1; rw [e]; exact Heap.lt_size e2
    · obtain ⟨o, e2, _⟩ := s.p2; rw [e]; exact Heap.lt_size e2
  keep := fun i h h' s k => by
    have ne : ∀ c, c ∈ [z, TI, TO, i1, i2, l1, l2] → c ≠ q := fun c hc e => hq (e ▸ hc)
    obtain ⟨x, y, e⟩ := s.to
    obtain ⟨o1, e1, r1⟩ := s.q1
    obtain ⟨o2, e2, r2⟩ := s.q2
    exact ⟨s.out.keep (ne z (by simp)) k, k _ _ (ne TI (by simp)) s.ti, ⟨x, y, k _ _ (ne TO (by simp)) e⟩, s.p1.at fun o e => k _ _ (ne i1 (by simp)) e, s.p2.at fun o e => k _ _ (ne i2 (by simp)) e, ⟨o1, k _ _ (ne l1 (by simp)) e1, r1⟩, ⟨o2, k _ _ (ne l2 (by simp)) e2, r2⟩⟩
  item := fun A E s i Q hi hqs S fin => by
    have h1 : i < xs.size := by omega
    have h2 : i < ys.size := by omega
    have hx : xs[i]? = some (xs.getD i .none) := by simp [h1]
    have hy : ys[i]? = some (ys.getD i .none) := by simp [h2]
    have lift : ∀ g : Heap, (∀ c o, c ≠ z → c ≠ TO → c ≠ i1 → c ≠ i2 → s.heap.get? c = some o → g.get? c = some o) → g.IsList l1 xs ∧ g.IsList l2 ys ∧ IsPair g TI (.ref i1) (.ref i2) := fun g k => by
      obtain ⟨o1, e1, r1⟩ := S.q1
      obtain ⟨o2, e2, r2⟩ := S.q2
      exact ⟨⟨o1, k _ _ D.l1z D.l1TO D.l1i1 D.l1i2 e1, r1⟩, ⟨o2, k _ _ D.l2z D.l2TO D.l2i1 D.l2i2 e2, r2⟩, k _ _ D.TIz D.TITO D.TIi1 D.TIi2 S.ti⟩
    have big : s.heap.objs.size ∉ [z, TI, TO, i1, i2] := fun hb => by
      have e' : s.heap.objs.size = z ∨ s.heap.objs.size = TI ∨ s.heap.objs.size = TO ∨ s.heap.objs.size = i1 ∨ s.heap.objs.size = i2 := by simpa using hb
      rcases e' with e | e | e | e | e
      · obtain ⟨u, e2, _⟩ := out_zip S.out
        exact big_ne (Heap.lt_size e2) e
      · exact big_ne (Heap.lt_size S.ti) e
      · obtain ⟨x, y, e2⟩ := S.to
        exact big_ne (Heap.lt_size e2) e
      · obtain ⟨o, e2, _⟩ := S.p1
        exact big_ne (Heap.lt_size e2) e
      · obtain ⟨o, e2, _⟩ := S.p2
        exact big_ne (Heap.lt_size e2) e
    rcases S.out with ⟨e0, o⟩ | ⟨T, f, oT, o0, o1, o2, o3, o4⟩
    · obtain ⟨x0, y0, hTO⟩ := S.to
      refine wpAny_pyNext_zip_item D o S.ti hTO S.p1 S.p2 S.q1 S.q2 hx hy fun g z' TO' p1 p2 hT hsz k => ?_
      obtain ⟨a1, a2, a3⟩ := lift g k
      exact fin g ⟨.inr ⟨_, false, _, Nat.succ_pos _, z', hT, big, Nat.ne_of_gt hqs⟩, a3, ⟨_, _, TO'⟩, p1, p2, a1, a2⟩ hT fun c o hc => by
        obtain ⟨c1, c2, c3, c4, c5⟩ := apart_ch (l1 := l1) (l2 := l2) hc
        exact k c o c1 c3 c4 c5
    · refine wpAny_pyNext_zip_item_held D o1 o2 S.ti S.p1 S.p2 S.q1 S.q2 hx hy fun g z' p1 p2 hT hsz k => ?_
      obtain ⟨a1, a2, a3⟩ := lift g fun c o c1 _ c3 c4 => k c o c1 c3 c4
      obtain ⟨x0, y0, hTO⟩ := S.to
      obtain ⟨t1, t2, t3, t4, t5⟩ := apart_ch (l1 := l1) (l2 := l2) o3
      exact fin g ⟨.inr ⟨T, true, oT, Nat.succ_pos _, z', k _ _ t1 t4 t5 o2, o3, o4⟩, a3, ⟨x0, y0, k _ _ D.TOz D.TOi1 D.TOi2 hTO⟩, p1, p2, a1, a2⟩ hT fun c o hc => by
        obtain ⟨c1, c2, c3, c4, c5⟩ := apart_ch (l1 := l1) (l2 := l2) hc
        exact k c o c1 c4 c5
  stop := fun A E s Q hh S fin => by
    have he : xs[min xs.size ys.size]? = none ∨ ys[min xs.size ys.size]? = none := by
      by_cases c : xs.size ≤ ys.size
      · exact .inl (by rw [Nat.min_eq_left c]; simp)
      · exact .inr (by rw [Nat.min_eq_right (by omega)]; simp)
    rcases S.out with ⟨e0, o⟩ | ⟨T, f, oT, o0, o1, o2, o3, o4⟩
    · obtain ⟨x0, y0, hTO⟩ := S.to
      refine wpAny_pyNext_zip_end hh D o S.ti hTO S.p1 S.p2 S.q1 S.q2 he fun g k => fin g fun c o hc => ?_
      obtain ⟨c1, c2, c3, c4, c5⟩ := apart_ch (l1 := l1) (l2 := l2) hc
      exact k c o c1 c3 c4 c5
    · refine wpAny_pyNext_zip_end_held hh D o1 o2 S.ti S.p1 S.p2 S.q1 S.q2 he fun g k => fin g fun c o hc => ?_
      obtain ⟨c1, c2, c3, c4, c5⟩ := apart_ch (l1 := l1) (l2 := l2) hc
      exact k c o c1 c4 c5
  iter := fun A E s Q S h => out_iter S.out h
theorem zw_tup {P : Program} {w : World} {xs ys : Array Value} {z TI TO i1 i2 l1 l2 q : Addr} (D : ZipApart z TI TO i1 i2 l1 l2) (hq : q ∉ [z, TI, TO, i1, i2, l1, l2]) :
    ZW P w z q [z, TI, TO, i1, i2] (min xs.size ys.size) (fun i => (xs.getD i .none, ys.getD i .none)) (TZ xs ys z TI TO i1 i2 l1 l2 q) where
  ty := fun i h s => out_zip s.out
  lt := fun i h s b hb => by
    have e' : b = z ∨ b = TI ∨ b = TO ∨ b = i1 ∨ b = i2 := by simpa using hb
    rcases e' with e | e | e | e | e
    · obtain ⟨u, e2, _⟩ := out_zip s.out; rw [e]; exact Heap.lt_size e2
    · rw [e]; exact Heap.lt_size s.ti
    · obtain ⟨x, y, e2⟩ := s.to; rw [e]; exact Heap.lt_size e2
    · obtain ⟨o, e2, _⟩ := s.p1; rw [e]; exact Heap.lt_size e2
    · obtain ⟨o, e2, _⟩ := s.p2; rw [e]; exact Heap.lt_size e2
  keep := fun i h h' s k => by
    have ne : ∀ c, c ∈ [z, TI, TO, i1, i2, l1, l2] → c ≠ q := fun c hc e => hq (e ▸ hc)
    obtain ⟨x, y, e⟩ := s.to
    obtain ⟨o1, e1, r1⟩ := s.q1
    obtain ⟨o2, e2, r2⟩ := s.q2
    exact ⟨s.out.keep (ne z (by simp)) k, k _ _ (ne TI (by simp)) s.ti, ⟨x, y, k _ _ (ne TO (by simp)) e⟩, s.p1.at fun o e => k _ _ (ne i1 (by simp)) e, s.p2.at fun o e => k _ _ (ne i2 (by simp)) e, ⟨o1, k _ _ (ne l1 (by simp)) e1, r1⟩, ⟨o2, k _ _ (ne l2 (by simp)) e2, r2⟩⟩
  item := fun A E s i Q hi hqs S fin => by
    have h1 : i < xs.size := by omega
    have h2 : i < ys.size := by omega
    have hx : xs[i]? = some (xs.getD i .none) := by simp [h1]
    have hy : ys[i]? = some (ys.getD i .none) := by simp [h2]
    have lift : ∀ g : Heap, (∀ c o, c ≠ z → c ≠ TO → c ≠ i1 → c ≠ i2 → s.heap.get? c = some o → g.get? c = some o) → g.IsTuple l1 xs ∧ g.IsTuple l2 ys ∧ IsPair g TI (.ref i1) (.ref i2) := fun g k => by
      obtain ⟨o1, e1, r1⟩ := S.q1
      obtain ⟨o2, e2, r2⟩ := S.q2
      exact ⟨⟨o1, k _ _ D.l1z D.l1TO D.l1i1 D.l1i2 e1, r1⟩, ⟨o2, k _ _ D.l2z D.l2TO D.l2i1 D.l2i2 e2, r2⟩, k _ _ D.TIz D.TITO D.TIi1 D.TIi2 S.ti⟩
    have big : s.heap.objs.size ∉ [z, TI, TO, i1, i2] := fun hb => by
      have e' : s.heap.objs.size = z ∨ s.heap.objs.size = TI ∨ s.heap.objs.size = TO ∨ s.heap.objs.size = i1 ∨ s.heap.objs.size = i2 := by simpa using hb
      rcases e' with e | e | e | e | e
      · obtain ⟨u, e2, _⟩ := out_zip S.out
        exact big_ne (Heap.lt_size e2) e
      · exact big_ne (Heap.lt_size S.ti) e
      · obtain ⟨x, y, e2⟩ := S.to
        exact big_ne (Heap.lt_size e2) e
      · obtain ⟨o, e2, _⟩ := S.p1
        exact big_ne (Heap.lt_size e2) e
      · obtain ⟨o, e2, _⟩ := S.p2
        exact big_ne (Heap.lt_size e2) e
    rcases S.out with ⟨e0, o⟩ | ⟨T, f, oT, o0, o1, o2, o3, o4⟩
    · obtain ⟨x0, y0, hTO⟩ := S.to
      refine RZ.pyNext_zipT_item D o S.ti hTO S.p1 S.p2 S.q1 S.q2 hx hy fun g z' TO' p1 p2 hT hsz k => ?_
      obtain ⟨a1, a2, a3⟩ := lift g k
      exact fin g ⟨.inr ⟨_, false, _, Nat.succ_pos _, z', hT, big, Nat.ne_of_gt hqs⟩, a3, ⟨_, _, TO'⟩, p1, p2, a1, a2⟩ hT fun c o hc => by
        obtain ⟨c1, c2, c3, c4, c5⟩ := apart_ch (l1 := l1) (l2 := l2) hc
        exact k c o c1 c3 c4 c5
    · refine heldT_next o1 o2 ⟨D, S.ti, S.to, S.p1, S.p2, S.q1, S.q2⟩ hx hy fun g z' p1 p2 hT hsz k => ?_
      obtain ⟨a1, a2, a3⟩ := lift g fun c o c1 _ c3 c4 => k c o c1 c3 c4
      obtain ⟨x0, y0, hTO⟩ := S.to
      obtain ⟨t1, t2, t3, t4, t5⟩ := apart_ch (l1 := l1) (l2 := l2) o3
      exact fin g ⟨.inr ⟨T, true, oT, Nat.succ_pos _, z', k _ _ t1 t4 t5 o2, o3, o4⟩, a3, ⟨x0, y0, k _ _ D.TOz D.TOi1 D.TOi2 hTO⟩, p1, p2, a1, a2⟩ hT fun c o hc => by
        obtain ⟨c1, c2, c3, c4, c5⟩ := apart_ch (l1 := l1) (l2 := l2) hc
        exact k c o c1 c4 c5
  stop := fun A E s Q hh S fin => by
    have he : xs[min xs.size ys.size]? = none ∨ ys[min xs.size ys.size]? = none := by
      by_cases c : xs.size ≤ ys.size
      · exact .inl (by rw [Nat.min_eq_left c]; simp)
      · exact .inr (by rw [Nat.min_eq_right (by omega)]; simp)
    rcases S.out with ⟨e0, o⟩ | ⟨T, f, oT, o0, o1, o2, o3, o4⟩
    · obtain ⟨x0, y0, hTO⟩ := S.to
      refine RZ.pyNext_zipT_end hh D o S.ti hTO S.p1 S.p2 S.q1 S.q2 he fun g k => fin g fun c o hc => ?_
      obtain ⟨c1, c2, c3, c4, c5⟩ := apart_ch (l1 := l1) (l2 := l2) hc
      exact k c o c1 c3 c4 c5
    · refine heldT_stop hh o1 o2 ⟨D, S.ti, S.to, S.p1, S.p2, S.q1, S.q2⟩ he fun g k => fin g fun c o hc => ?_
      obtain ⟨c1, c2, c3, c4, c5⟩ := apart_ch (l1 := l1) (l2 := l2) hc
      exact k c o c1 c4 c5
  iter := fun A E s Q S h => out_iter S.out h
end ZL
namespace ZL
open PySem PySem.Spec PyProof.Rows L2
section
variable {X : Cx} {pins : List (Addr × Obj)} {σ : L2.St} {H : Hp} {s : Shared}
theorem zip_hint {M : Model} {A : Around} {E : Value → Shared → Prop} {Q : Bool → Shared → Prop} {z : Addr} (hT : s.TypeIs (.ref z) "zip") (h : Q true s) : wpAny M A (Builtin.List.listLengthHint (.ref z)) Q E s := by
  unfold Builtin.List.listLengthHint specialOf
  refine wpAny_bind (wpAny_bind (wpAny_typeOf hT ?_))
  rw [zip_no_len]
  refine wpAny_pure ?_
  refine PySem.W.KFB.if_not rfl ?_
  refine PySem.W.KFB.if_not rfl ?_
  refine wpAny_bind (wpAny_bind (wpAny_typeOf hT ?_))
  rw [zip_no_hint]
  exact wpAny_pure (wpAny_pure h)
/-- list(z) of a zip that has just been made -/
theorem list_zip {z : Addr} {ch : List Addr} {n : Nat} {us : Nat → Value × Value} {vs : Nat → V × V} {Z : Addr → Nat → Heap → Prop} {Q : Value → Shared → Prop} {E : Value → Shared → Prop} (hc : X.A.handled = none) (I : Inv X pins σ H s)
    (zw : ∀ q, s.heap.objs.size ≤ q → ZW X.prog X.w z q ch n us (Z q)) (hz : ∀ q, s.heap.objs.size ≤ q → Z q 0 s.heap) (hf : ∀ b ∈ ch, FpOk X pins H b) (hzl : z < s.heap.objs.size)
    (rel : ∀ i, i < n → L2.RelV (vs i).1 (us i).1 ∧ L2.RelV (vs i).2 (us i).2) (hn : n ≤ sizeLine)
    (fin : ∀ (q : Addr) (ps : List Addr) (H2 : Hp) (s' : Shared), Inv X pins σ H2 s' → (∀ c o, H c = some o → H2 c = some o) → H q = none → H2 q = some (.lst (ps.map V.ref)) → ps.length = n →
      (∀ (i : Nat) (p : Addr), ps[i]? = some p → H2 p = some (.tup [(vs i).1, (vs i).2])) → Q (.ref q) s') :
    wpAny (model X.prog X.w) X.A (call (.type "list") [.ref z]) Q E s := by
  refine callType_codes (Q₁ := fun obj s₁ => obj = .ref s.heap.objs.size ∧ s₁ = { s with heap := s.heap.push { cls := .type "list", data := .seq #[] } }) PySem.F.called_list (PySem.F.typeCall_list_1 _) PySem.F.entry_list_init
    (code_list_new _ ⟨rfl, rfl⟩) fun obj s₁ h₁ => ?_
  obtain ⟨rfl, rfl⟩ := h₁
  have hS : (s.heap.push { cls := .type "list", data := .seq #[] }).get? s.heap.objs.size = some { cls := .type "list", data := .seq #[] } := Heap.get?_push_size _ rfl
  refine ⟨⟨_, hS, rfl⟩, PySem.F.args_list_init_2 _ _, ?_⟩
  have fr : H s.heap.objs.size = none := I.hok.fresh (Nat.le_refl _)
  have I1 : Inv X pins σ (upd H s.heap.objs.size (.lst [])) { s with heap := s.heap.push { cls := .type "list", data := .seq #[] } } := I.lnew (its := []) (t' := s.toks) .nil (Nat.zero_le _)
  show wpAny _ _ (Builtin.List.listItems (.ref s.heap.objs.size) >>= fun old => Builtin.List.listUpdate (.ref s.heap.objs.size) (fun _ => #[]) >>= fun _ => letGo old.toList.reverse >>= fun _ => Builtin.List.listExtendWith (.ref s.heap.objs.size) (.ref z) .none) _ _ _
  refine wpAny_bind ?_
  unfold Builtin.List.listItems
  refine wpAny_bind (wpAny_seqItems hS rfl (wpAny_pure ?_))
  show wpAny _ _ (updateSeq s.heap.objs.size (fun _ => #[]) >>= fun _ => letGo (#[] : Array Value).toList.reverse >>= fun _ => Builtin.List.listExtendWith (.ref s.heap.objs.size) (.ref z) .none) _ _ _
  refine wpAny_bind (wpAny_updateSeq hS rfl ?_)
  have I2 := I1.lset (f := fun _ => #[]) (its := []) (its' := []) (ys := []) (t' := s.toks) upd_same hS rfl .nil (Nat.zero_le _)
  rw [upd_upd] at I2
  have Zq := zw s.heap.objs.size (Nat.le_refl _)
  have hlt0 : ∀ b ∈ ch, b < s.heap.objs.size := fun b hb => Zq.lt 0 _ (hz _ (Nat.le_refl _)) b hb
  generalize hq : s.heap.objs.size = q at *
  have Z0 : Z q 0 ((s.heap.push { cls := .type "list", data := .seq #[] }).update q (Obj.mapSeq fun _ => #[])) := Zq.keep 0 _ _ (hz q (Nat.le_refl _)) fun c o hcq e => (Heap.get?_update_other _ _ (Ne.symm hcq)).trans (Heap.get?_push_of_some _ e)
  refine wpAny_bind (wpAny_letGo ?_)
  have hzq : q ≠ z := Nat.ne_of_gt hzl
  generalize hs2 : ({ s with heap := (s.heap.push { cls := .type "list", data := .seq #[] }).update q (Obj.mapSeq fun _ => #[]) } : Shared) = s2 at *
  have Z2 : Z q 0 s2.heap := by rw [← hs2]; exact Z0
  have I3 : Inv X pins σ (upd H q (.lst [])) s2 := I2
  obtain ⟨oz, ez, cz⟩ := Zq.ty 0 _ Z2
  have hT : s2.TypeIs (.ref z) "zip" := ⟨oz, ez, cz⟩
  have hlt : ∀ b ∈ ch, b < q := hlt0
  have F3 : ∀ b ∈ ch, FpOk X pins (upd H q (.lst [])) b := fun b hb => fp_keep (hf b hb) (by rw [upd_ne (Nat.ne_of_lt (hlt b hb))]; exact (hf b hb).1)
  have hin : X.A.in1.in1.handled = none := hc
  -- the loop
  have go : ∀ s3, Inv X pins σ (upd H q (.lst [])) s3 → Z q 0 s3.heap → codeAny (model X.prog X.w) X.A.in1 (.builtin "list.extend.loop" ⟨[.ref q, .ref z, .none], []⟩) (wants (fun r s₂ => r = .none ∧ Q (.ref q) s₂) E) s3 := fun s3 I4 Z4 => by
    refine zl_loop (Pv := fun i acc H2 => H q = none ∧ (∀ c o, H c = some o → H2 c = some o) ∧ ∃ ps : List Addr, acc = ps.map V.ref ∧ ps.length = i ∧ ∀ (j : Nat) (p : Addr), ps[j]? = some p → H2 p = some (.tup [(vs j).1, (vs j).2])) Zq hin rel hn ?_ ?_ n 0 [] _ s3 (by omega) rfl I4 Z4 F3 upd_same ⟨fr, fun c o e => by rw [upd_ne (ne_of_none e fr)]; exact e, [], rfl, rfl, fun j p e => by simp at e⟩
    · rintro i acc H2 p hi ⟨h1, h2, ps, rfl, hl, h3⟩ hq2 hp
      have hpq : p ≠ q := fun e => by rw [e, hq2] at hp; cases hp
      refine ⟨h1, fun c o e => ?_, ps ++ [p], by simp, by simp [hl], fun j p' e => ?_⟩
      · rw [upd_ne (ne_of_none e h1), upd_ne (ne_of_none (h2 c o e) hp)]
        exact h2 c o e
      · by_cases hj : j < ps.length
        · rw [List.getElem?_append_left hj] at e
          have h4 := h3 j p' e
          have hp'q : p' ≠ q := fun z' => by rw [z', hq2] at h4; cases h4
          rw [upd_ne hp'q, upd_ne (ne_of_none h4 hp)]
          exact h4
        · have hj' : j = ps.length := by
            have := (List.getElem?_eq_some_iff.mp e).1
            simp at this; omega
          subst hj'
          simp at e
          subst e
          rw [upd_ne hpq, upd_same, hl]
    · rintro acc H2 s4 I5 ⟨h1, h2, ps, rfl, hl, h3⟩ hq2
      exact ⟨rfl, fin q ps H2 s4 I5 h2 h1 hq2 hl h3⟩
  unfold Builtin.List.listExtendWith
  refine wpAny_bind (wpAny_typeOf hT ?_)
  have h1 : Builtin.List.listSameRef (.ref q) (.ref z) = false := by simp [Builtin.List.listSameRef, hzq]
  have h2 : (Value.type "zip" == Value.type "list") = false := by decide
  have h3 : (Value.type "zip" == Value.type "tuple") = false := by decide
  simp only [h1, h2, h3, Bool.or_false, Bool.false_eq_true, if_false]
  refine wpAny_bind (Zq.iter _ _ s2 _ Z2 ?_)
  refine wpAny_bind (wpAny_holding (zip_hint hT ?_))
  refine wpAny_ite_split (fun _ => ?_) (fun _ => wpAny_pure ⟨plainId_quiet PySem.F.plain_extend_loop _, go s2 I3 Z2⟩)
  refine wpAny_bind (wpAny_rule ?_)
  refine wpAny_bind ?_
  show wpAny _ _ (updateSeq q (·.push .none) >>= fun _ => updateSeq q (·.pop)) _ _ _
  obtain ⟨z0, its, k, r3, hl3, e3⟩ := I3.lstM upd_same
  cases r3
  refine wpAny_bind (wpAny_updateSeq e3 rfl ?_)
  have J2 := I3.lset (f := (·.push Value.none)) (its' := [Value.none]) (ys := [.non]) (t' := s2.toks) upd_same e3 (by simp) (.cons rfl .nil) (by rw [List.length_singleton, sizeLine_eq]; decide)
  obtain ⟨z4, its4, k4, r4, hl4, e4⟩ := J2.lstM upd_same
  obtain ⟨u4, rfl, ru4⟩ := r4.one
  refine wpAny_updateSeq e4 rfl ?_ (by show 1 ≤ sizeLine; rw [sizeLine_eq]; decide) (by show 0 ≤ sizeLine + 1; exact Nat.zero_le _)
  refine wpAny_pure ⟨plainId_quiet PySem.F.plain_extend_loop _, go _ ?_ ?_⟩
  · have J3 := J2.lset (f := (·.pop)) (its := [u4]) (its' := []) (ys := []) (t' := s2.toks) upd_same e4 (by rfl) .nil (Nat.zero_le _)
    rw [upd_upd, upd_upd] at J3
    exact J3
  · exact Zq.keep 0 _ _ Z2 fun c o hcq e => (Heap.get?_update_other _ _ (Ne.symm hcq)).trans ((Heap.get?_update_other _ _ (Ne.symm hcq)).trans e)
end
end ZL
/-! enumerate(a tuple), enumerate(a text) -/
namespace EN
open PySem PySem.Spec PyProof.Rows L2
open Sem (wp)
open AutoSeq1 (wpAny_loadPart')
set_option maxHeartbeats 2000000 in
theorem new_of {x : Value} {ob : Obj} {S : Heap → Prop} (B : Begins x ob S) : Meets (Builtin.«enumerate.__new__» ⟨[.type "enumerate", x], []⟩) (fun _ R st => S st.heap ∧
    R (.ok (.ret (.ref (st.heap.push ob).objs.size))) { st with heap := (st.heap.push ob).push { cls := .type "enumerate", data := .fields #[.none, .bool false, .ref st.heap.objs.size, rawInt 0, .none, .none] } }) :=
  Meets.of_wp fun prog w A R st hx => by
    obtain ⟨hp, g, d, tk, os⟩ := st
    obtain ⟨h1, hx⟩ := hx
    have hsub := sub_enumerate
    have q1 : ∀ {A' : Around} {E : Value → Shared → Prop} {Q : Value → Shared → Prop}, Q (.ref hp.objs.size) ⟨hp.push ob, g, d, tk, os⟩ → wpAny (model prog w) A' (pyIter x) Q E ⟨hp, g, d, tk, os⟩ := fun q =>
      B.iter prog w _ _ ⟨hp, g, d, tk, os⟩ _ h1 q
    wp_walk using q1
    refine wpAny_stack_any fun _ => wpAny_pure ?_
    split
    · rename_i cl _ _ _ _ _
      cases (cl == Value.type "enumerate") <;>
        · wp_walk using q1
          exact ⟨_, rfl, hx⟩
    · wp_walk using q1
      exact ⟨_, rfl, hx⟩
section
variable {prog : Program} {w : World} {A : Around} {E : Value → Shared → Prop} {st : Shared}
theorem call_of {x : Value} {ob : Obj} {S : Heap → Prop} {Q : Value → Shared → Prop} (B : Begins x ob S) (h1 : S st.heap)
    (hq : ∀ h', IsEnum h' (st.heap.objs.size + 1) st.heap.objs.size 0 .none → h'.get? st.heap.objs.size = some ob → h'.objs.size = st.heap.objs.size + 2 → (∀ c u, st.heap.get? c = some u → h'.get? c = some u) →
      Q (.ref (st.heap.objs.size + 1)) { st with heap := h' }) : wpAny (model prog w) A (call (.type "enumerate") [x]) Q E st := by
  refine callType_new F.called_enumerate (by decide) (F.typeCall_enumerate_1 _) (F.newCall_enumerate_1 _) (fun obj => F.args_object_init_2 obj _) F.entry_enumerate_new (new_of B) ⟨h1, ?_⟩
  have hz : (st.heap.push ob).objs.size = st.heap.objs.size + 1 := Heap.size_push ..
  show _ ∧ _
  rw [hz]
  have he : IsEnum ((st.heap.push ob).push { cls := .type "enumerate", data := .fields #[.none, .bool false, .ref st.heap.objs.size, rawInt 0, .none, .none] }) (st.heap.objs.size + 1) st.heap.objs.size 0 .none := by
    have e := Heap.get?_push_size (st.heap.push ob) (o := { cls := .type "enumerate", data := .fields #[.none, .bool false, .ref st.heap.objs.size, rawInt 0, .none, .none] }) rfl
    rw [hz] at e
    exact e
  exact ⟨⟨_, he, rfl⟩, hq _ he (Heap.get?_push_of_some _ (Heap.get?_push_size _ B.free)) (by rw [Heap.size_push, hz]) fun c u y => Heap.get?_push_of_some _ (Heap.get?_push_of_some _ y)⟩
end
/-- the tuple at a, each item in a new pair with its place -/
def IteT (K : PySem.W.Frag) (a : Addr) : It where
  go := fun i H => ∃ (xs : List V) (x : V), SqT K H a xs ∧ xs[i]? = some x
  yld := fun i H v H' => ∃ T x, v = .ref T ∧ H T = none ∧ H' = upd H T (.tup [.int (i : Nat), x]) ∧ ∀ xs, SqT K H a xs → xs[i]? = some x
  stop := fun i H => ∃ xs : List V, SqT K H a xs ∧ xs.length = i
theorem turn_enumT {P : Program} {w : World} {K : PySem.W.Frag} {elts : List Expr} {kk : Nat} {tpos : Pos} (a e it : Addr) (ne : a ≠ it) (ne2 : e ≠ a) :
    Turn P w K (.Tuple elts kk tpos) (IteT K a) [e, it] e (fun i h => (∃ old, IsEnum h e it ((i : Nat) : Int) old) ∧ h.IsTupleIter it a i ∧ e ≠ it) where
  mem := List.mem_cons_self
  obj := fun i h st b hb => by
    obtain ⟨⟨old, he⟩, ⟨o, ho, hc, hd⟩, _⟩ := st
    rcases (show b = e ∨ b = it by simpa using hb) with z | z
    · rw [z]; exact ⟨_, he, fun v q => by cases q⟩
    · exact ⟨o, by rw [z]; exact ho, fun v q => by rw [hd] at q; cases q⟩
  keep := fun i h h' st k => by
    obtain ⟨⟨old, he⟩, hi, hne⟩ := st
    exact ⟨⟨old, k e (by simp) _ he⟩, hi.at fun o q => k it (by simp) o q, hne⟩
  item := by
    intro X hP hw hK hc i pins s σ H E I hf st hg
    subst hP hw hK
    obtain ⟨⟨old, he⟩, hit, hne⟩ := st
    obtain ⟨xs, x, hq, hx⟩ := hg
    obtain ⟨its, rv, p, hz⟩ := I.tuple hq
    obtain ⟨u, hu, ru⟩ := rv.get hx
    have hel : e < s.heap.objs.size := Heap.lt_size he
    have hil : it < s.heap.objs.size := by obtain ⟨_, q, _⟩ := hit; exact Heap.lt_size q
    have hlt : i < its.toArray.size := by
      rw [List.size_toArray]; exact (List.getElem?_eq_some_iff.mp hu).1
    refine wpAny_pyNext_enum_itemD (Draws.tuple (show X.A.in1.handled = none from I.ok.hd hc) it a ne its.toArray) he ⟨hit, show s.heap.IsTuple a its.toArray from p⟩ hlt hne (by
      intro hm
      rcases (show e = it ∨ e = a by simpa using hm) with z | z
      · exact hne z
      · exact ne2 z) fun y h' tk hy ho hs' hT hsz hk => ?_
    obtain ⟨hit', hl'⟩ := hs'
    have ey : y = u := by
      have e1 : its[i]? = some y := by simpa using hy
      rw [hu] at e1
      exact (Option.some.inj e1).symm
    subst ey
    refine ⟨_, rfl, wpAny_letOwnedTupleGo_enum (s := { s with heap := h', toks := tk + 1 }) ho fun h'' he' sb => ?_⟩
    have hT2 : h''.get? s.heap.objs.size = some { cls := .type "tuple", data := .seq #[.int i tk, y] } := (sb.2 _ (Nat.ne_of_gt hel)).trans hT
    have new : ObjOk X.prog X.w (upd H s.heap.objs.size (.tup [.int (i : Nat), x])) h'' s.heap.objs.size (.tup [.int (i : Nat), x]) := ⟨by show 2 ≤ sizeLine; decide, [.int i tk, y], .cons ⟨_, rfl⟩ (.cons ru .nil), ⟨_, hT2, rfl, _, rfl⟩⟩
    have I1 : Inv X pins σ (upd H s.heap.objs.size (.tup [.int (i : Nat), x])) { s with heap := h'', toks := tk + 1 } := I.turnedNew (ch := [e, it]) (fun b ob hb q => (sb.2 b (fun z => hb (by simp [z]))).trans (hk b ob (fun z => hb (by simp [z])) (fun z => hb (by simp [z])) q)) hf (Nat.le_refl _) new
    refine ⟨.ref s.heap.objs.size, _, I1, rfl, ⟨_, x, rfl, I.hok.fresh (Nat.le_refl _), rfl, fun ys hy => by rw [I.tuple_inj hy hq]; exact hx⟩, ⟨⟨y, ?_⟩, hit'.at fun o q => (sb.2 it (Ne.symm hne)).trans q, hne⟩, fun b hb => ?_⟩
    · rw [show ((i + 1 : Nat) : Int) = (i : Int) + 1 by omega]; exact he'
    · have hb' : b < s.heap.objs.size := by
        rcases (show b = e ∨ b = it by simpa using hb) with z | z
        · exact z ▸ hel
        · exact z ▸ hil
      rw [upd_ne (Nat.ne_of_lt hb')]
      exact (hf b hb).1
  done := by
    intro X hP hw hK hc i pins s σ H E I hf st hg
    subst hP hw hK
    obtain ⟨⟨old, he⟩, hit, hne⟩ := st
    obtain ⟨xs, hq, hx⟩ := hg
    obtain ⟨its, rv, p, hz⟩ := I.tuple hq
    obtain ⟨f0, f1, f2, f3, f4, f5⟩ := hf it (by simp)
    have ei : i = its.toArray.size := by rw [List.size_toArray, ← rv.length]; exact hx.symm
    subst ei
    exact wpAny_pyNext_enum_endD (Draws.tuple (show X.A.in1.handled = none from I.ok.hd hc) it a ne its.toArray) he ⟨hit, show s.heap.IsTuple a its.toArray from p⟩ fun h' eb => ⟨rfl, I.turned (t' := s.toks) (fun b o hb q => eb b o hb q) f0 f1 f3 f4 f5⟩
  self := fun A i s Q E st h => by
    obtain ⟨⟨_, he⟩, _⟩ := st
    exact wpAny_pyIter_enum he h
def iEnumT (K : PySem.W.Frag) (ta : TA) : TI := fun σ H R => ta σ H fun vs H1 => ∃ a xs, vs = [.ref a] ∧ ((SqL K H1 a xs ∧ R (Ite K a) H1) ∨ (SqT K H1 a xs ∧ R (IteT K a) H1))
/-- enumerate of a list or of a tuple -/
theorem pi_enumU {X : Cx} {e : Expr} {ta : TA} {p pos tpos : Pos} {elts : List Expr} {kk : Nat} (hg : Gl X "enumerate") (hm : X.mg "enumerate" = none) (ha : PA X [e] ta) (hs : starEach [e] X.env = [(false, eval e X.env)] := by rfl) :
    PI X (.Tuple elts kk tpos) (.Call (.Name "enumerate" p) [e] [] pos) (iEnumT X.K ta) := by
  refine ⟨fun pins s σ H R I h => Call_ (ld_blt I hg hm boot_enumerate (PyProof.Rows.callWith_type1 (thn (ha.run pos pins s σ H _ I h) fun us s1 ⟨vs, H1, I1, r1, q1⟩ => ?_) hs rfl))⟩
  obtain ⟨a, xs, ex, q1⟩ := q1
  subst ex
  cases r1 with
  | cons r rr =>
    cases rr
    cases r
    have fresh : ∀ b ∈ [s1.heap.objs.size + 1, s1.heap.objs.size], FpOk X pins H1 b := fun b hb => by
      have hle : s1.heap.objs.size ≤ b := by
        rcases (show b = s1.heap.objs.size + 1 ∨ b = s1.heap.objs.size by simpa using hb) with z | z <;> omega
      exact I1.fpOk hle (I1.hok.fresh hle)
    rcases q1 with ⟨hq, q⟩ | ⟨hq, q⟩
    · obtain ⟨its, rv, p', hz⟩ := I1.list hq
      refine call_enumerate_list p'.isList fun h' he hit hsz hk => wpAny_pyIter_enum he ?_
      have I2 : Inv X pins σ H1 { s1 with heap := h' } := I1.kept (t' := s1.toks) hk
      exact ⟨s1.heap.objs.size + 1, [s1.heap.objs.size + 1, s1.heap.objs.size], _, _, H1, rfl, I2, turn_enum a (s1.heap.objs.size + 1) s1.heap.objs.size, ⟨⟨.none, he⟩, hit, Nat.succ_ne_self _⟩, fresh, q⟩
    · obtain ⟨its, rv, p', hz⟩ := I1.tuple hq
      have hal : a < s1.heap.objs.size := by obtain ⟨o1, ho1, _⟩ := id p'; exact Heap.lt_size ho1
      refine call_of (begins_tuple a its.toArray) (show s1.heap.IsTuple a its.toArray from p') fun h' he hit hsz hk => wpAny_pyIter_enum he ?_
      have I2 : Inv X pins σ H1 { s1 with heap := h' } := I1.kept (t' := s1.toks) hk
      exact ⟨s1.heap.objs.size + 1, [s1.heap.objs.size + 1, s1.heap.objs.size], _, _, H1, rfl, I2, turn_enumT a (s1.heap.objs.size + 1) s1.heap.objs.size (Nat.ne_of_lt hal) (Nat.ne_of_gt (Nat.lt_succ_of_lt hal)), ⟨⟨.none, he⟩, ⟨_, hit, rfl, rfl⟩, Nat.succ_ne_self _⟩, fresh, q⟩
end EN
/-! x[::-1], x a list or a tuple -/
namespace SR
open PySem PySem.Spec PyProof.Rows L2
section
variable {prog : Program} {w : World} {A : Around} {E : Value → Shared → Prop} {s : Shared}
theorem places (n : Nat) : Builtin.Slice.slicePlaces ((n : Int) - 1) (-1) (-1) = n := by
  unfold Builtin.Slice.slicePlaces
  have h1 : ¬ ((-1 : Int) > 0) := by decide
  simp only [h1, if_false]
  have h2 : -(-1 : Int) = 1 := by decide
  rw [h2, Int.ediv_one]
  split <;> omega
theorem applied {sl : Addr} {t : Tok} {n : Nat} {Q : Int × Int × Nat → Shared → Prop} (hs : s.heap.IsSliceOf sl .none .none (.int (-1) t)) (h : Q ((n : Int) - 1, -1, n) s) :
    wpAny (model prog w) A (Builtin.Slice.sliceApplied (.ref sl) (pure (n : Int))) Q E s := by
  obtain ⟨os, hos, hcs, hds⟩ := id hs
  unfold Builtin.Slice.sliceApplied Builtin.Slice.sliceFields
  refine wpAny_bind (wpAny_bind (wpAny_field hos hds (x := .none) rfl (wpAny_bind (wpAny_field hos hds (x := .none) rfl (wpAny_bind (wpAny_field hos hds (x := .int (-1) t) rfl (wpAny_pure ?_)))))))
  refine wpAny_bind (slicePart_int ?_)
  show wpAny _ _ (if ((-1 : Int) == 0) = true then _ else _) _ _ s
  rw [if_neg (by decide)]
  refine wpAny_bind (slicePart_none (wpAny_bind (slicePart_none (wpAny_bind (wpAny_pure ?_)))))
  show wpAny _ _ (pure (((n : Int) - 1), (-1 : Int), Builtin.Slice.slicePlaces ((n : Int) - 1) (-1) (-1))) _ _ s
  rw [places]
  exact wpAny_pure h
theorem fm_congr {α β : Type} {f g : α → Option β} : ∀ {l : List α}, (∀ a ∈ l, f a = g a) → l.filterMap f = l.filterMap g
  | [], _ => rfl
  | a :: r, h => by rw [List.filterMap_cons, List.filterMap_cons, h a List.mem_cons_self, fm_congr fun b m => h b (List.mem_cons_of_mem _ m)]
theorem pick_rev : ∀ (xs : List Value), ((List.range xs.length).filterMap fun (m : Nat) => xs[((xs.length : Int) - 1 + (m : Int) * (-1)).toNat]?) = xs.reverse := by
  intro xs
  have e : ((List.range xs.length).filterMap fun (m : Nat) => xs[((xs.length : Int) - 1 + (m : Int) * (-1)).toNat]?) = (List.range xs.length).filterMap fun m => xs.reverse[m]? := by
    apply fm_congr
    intro m hm
    have hm' : m < xs.length := List.mem_range.mp hm
    rw [List.getElem?_reverse hm', show ((xs.length : Int) - 1 + (m : Int) * (-1)).toNat = xs.length - 1 - m by omega]
  rw [e]
  have q : ∀ l : List Value, (List.range l.length).filterMap (fun m => l[m]?) = l := fun l => by
    induction l with
    | nil => rfl
    | cons a r ih => rw [List.length_cons, List.range_succ_eq_map, List.filterMap_cons, List.filterMap_map]; exact congrArg (a :: ·) ih
  have := q xs.reverse
  rwa [List.length_reverse] at this
theorem item_tup {t sl : Addr} {items : Array Value} {tk : Tok} {Q : Value → Shared → Prop} (ht : IsTup s.heap t items) (hs : s.heap.IsSliceOf sl .none .none (.int (-1) tk))
    (h : Q (.ref s.heap.objs.size) { s with heap := s.heap.push { cls := .type "tuple", data := .seq items.toList.reverse.toArray } }) (hsz : items.size ≤ sizeLine) : wpAny (model prog w) A (getItem (.ref t) (.ref sl)) Q E s := by
  have htake : sizeOk (.seq items.toList.reverse.toArray) := by
    show items.toList.reverse.toArray.size ≤ sizeLine
    rw [List.size_toArray, List.length_reverse, Array.length_toList]; exact hsz
  obtain ⟨os, hos, hcs, hds⟩ := id hs
  have hTs : s.TypeIs (.ref sl) "slice" := ⟨os, hos, hcs⟩
  unfold getItem
  try with_reducible refine wpAny_holding ?_
  first | refine wpAny_bind (wpAny_pure ?_) | skip
  refine wpAny_bind (wpAny_sequenceKey ht.typeIs (by decide) ?_)
  refine wpAny_bind (wpAny_callSpecial?_slot (name := Str.ofString "__getitem__") ht.typeIs PyProof.Rows.slot_tuple_getitem (wpAny_call_entry PyProof.Rows.slot_tuple_getitem ht.typeIs entry_tuple_getitem ?_ (args_tuple_getitem _ _)))
  show wpAny _ _ (Builtin.Tuple.tupleItemsOf (.ref t) >>= _) _ _ s
  refine wpAny_bind (tupleItemsOf_ ht ?_)
  refine wpAny_bind (wpAny_typeOf hTs ?_)
  rw [if_pos (by decide)]
  refine wpAny_bind (applied (n := items.size) hs ?_)
  have hno : ¬ ((((items.size : Int) - 1) == 0 && (-1 : Int) == 1 && items.size == items.size) = true) := by
    rw [show ((-1 : Int) == 1) = false from rfl, Bool.and_false, Bool.false_and]; exact Bool.false_ne_true
  show wpAny _ _ (if (((items.size : Int) - 1) == 0 && (-1 : Int) == 1 && items.size == items.size) = true then _ else _) _ _ s
  rw [if_neg hno]
  have hp : ((List.range items.size).filterMap fun (m : Nat) => items[((items.size : Int) - 1 + (m : Int) * (-1)).toNat]?).toArray = items.toList.reverse.toArray := by
    congr 1
    have := pick_rev items.toList
    simp only [Array.length_toList, Array.getElem?_toList] at this
    exact this
  rw [hp]
  first
    | exact wpAny_bind (m := Builtin.Tuple.tupleExact _) (wpAny_newObj_type (wpAny_pure ⟨_, rfl, wpAny_pure h⟩) htake)
    | exact wpAny_bind (m := Builtin.Tuple.tupleExact _) (wpAny_newObj_type (wpAny_bind (wpAny_pure (wpAny_pure ⟨_, rfl, wpAny_pure h⟩))) htake)
    | exact wpAny_bind (wpAny_bind (m := Builtin.Tuple.tupleExact _) (wpAny_newObj_type (wpAny_pure (wpAny_pure ⟨_, rfl, wpAny_pure h⟩)) htake))
    | exact wpAny_bind (wpAny_bind (m := Builtin.Tuple.tupleExact _) (wpAny_newObj_type (wpAny_pure ⟨_, rfl, wpAny_pure h⟩) htake))
end
theorem pick_list (items : Array Value) : slicePick items none none (some (-1)) = items.toList.reverse.toArray := by
  unfold slicePick
  have hb : sliceBounds none none (some (-1)) items.size = ((items.size : Int) - 1, -1, -1) := rfl
  rw [hb]
  congr 1
  show (sliceRange ((items.size : Int) - 1) (-1) (-1)).filterMap _ = _
  unfold sliceRange
  have hc : ((if (-1 : Int) > 0 then (if (items.size : Int) - 1 < -1 then (-1 - ((items.size : Int) - 1) + -1 - 1) / -1 else 0) else (if (items.size : Int) - 1 > -1 then ((items.size : Int) - 1 - -1 - -1 - 1) / (- -1) else 0)) : Int).toNat = items.size := by
    have h1 : ¬ ((-1 : Int) > 0) := by decide
    simp only [h1, if_false]
    have h2 : -(-1 : Int) = 1 := by decide
    rw [h2, Int.ediv_one]
    split <;> omega
  simp only [hc]
  rw [List.filterMap_map]
  have := pick_rev items.toList
  simp only [Array.length_toList, Array.getElem?_toList] at this
  rw [← this]
  apply fm_congr
  intro m hm
  show items[((items.size : Int) - 1 + -1 * (m : Int)).toNat]? = _
  rw [Int.mul_comm]
section
variable {X : Cx}
def kRev (K : PySem.W.Frag) : V → Hp → VK → Prop := fun x H Q => ∃ a xs, x = .ref a ∧ ((SqT K H a xs ∧ ∀ p, H p = none → Q (.ref p) (upd H p (.tup xs.reverse))) ∨ (SqL K H a xs ∧ ∀ p, H p = none → Q (.ref p) (upd H p (.lst xs.reverse))))
theorem vals_rev : ∀ {xs : List V} {us : List Value}, Vals xs us → Vals xs.reverse us.reverse := by
  intro xs us r
  have hl := r.length
  induction xs generalizing us with
  | nil => cases r; exact .nil
  | cons x xs ih =>
    cases r with
    | cons r1 r2 =>
      rw [List.reverse_cons, List.reverse_cons]
      exact (ih r2 r2.length).append (.cons r1 .nil)
theorem pe_rev {e st : Expr} {te ts : TE} {pos p2 : Pos} (he : PE X e te) (hst : PE X st ts) {ops : Value → Value → List Value} (hsb : ∀ v u, subscripted (.Slice none none (some st) p2) false v u = operate (ops v u) (getItem v u)) : PE X (.Subscript e (.Slice none none (some st) p2) pos) (fun σ H Q => te σ H fun x H1 => ts σ H1 fun y H2 => y = .int (-1) ∧ kRev X.K x H2 Q) := by
  refine ⟨fun pins s σ H Q I h => ?_⟩
  refine Subscript_ (thn (he.run pins s σ H _ I h) fun v s1 ⟨x, H1, I1, r1, q1⟩ => ?_)
  refine wpAny_Slice ?_
  simp only [evalPart_none]
  refine wpAny_pure (wpAny_pure ?_)
  rw [evalPart_some]
  refine thn (hst.run pins s1 σ H1 _ I1 q1) fun u s3 ⟨y, H3, I3, r3, ey, a, xs, ex, q3⟩ => ?_
  subst ey ex
  obtain ⟨tk, rfl⟩ := r3
  obtain rfl : v = Value.ref a := r1
  have I4 : Inv X pins σ H3 { s3 with heap := s3.heap.push { cls := .type "slice", data := .fields #[.none, .none, .int (-1) tk] } } := I3.kept (t' := s3.toks) fun b ob q => Heap.get?_push_of_some _ q
  have hsl : Heap.IsSliceOf (s3.heap.push { cls := .type "slice", data := .fields #[.none, .none, .int (-1) tk] }) s3.heap.objs.size .none .none (.int (-1) tk) := Heap.IsSliceOf.new ..
  show wpAny (model X.prog X.w) X.A (subscriptTail e (.Slice none none (some st) p2) (.ref a) (.ref s3.heap.objs.size)) (EP X pins σ Q) X.xe { s3 with heap := s3.heap.push { cls := .type "slice", data := .fields #[.none, .none, .int (-1) tk] } }
  rcases q3 with ⟨hx, q⟩ | ⟨hx, q⟩
  · obtain ⟨its, r, ht, hz⟩ := I4.tuple hx
    refine tail_any ht.typeIs PyProof.Rows.slot_tuple_getitem.lookup (item_tup ht hsl ?_ (by rw [List.size_toArray, ← r.length]; exact hz)) (hsb _ _)
    refine ⟨.ref (s3.heap.push { cls := .type "slice", data := .fields #[.none, .none, .int (-1) tk] }).objs.size, _, I4.laid (t' := s3.toks) (o := .tup xs.reverse) (fun b ob q => Heap.get?_push_of_some _ q) (Nat.le_refl _) ?_, rfl, q _ (I4.hok.fresh (Nat.le_refl _))⟩
    exact ⟨by rw [List.length_reverse]; exact hz, _, vals_rev r, IsTup.new _ _⟩
  · obtain ⟨its, r, pl, hz⟩ := I4.list hx
    refine tail_any pl.isList.typeIs list_getitem_lookup (wpAny_getItem_list_slice (lo := none) (hi := none) (st := some (-1)) pl.isList hsl .none .none (.int (-1) tk) (by simp) ?_ (by rw [List.size_toArray, ← r.length]; exact hz)) (hsb _ _)
    rw [pick_list]
    refine ⟨.ref (s3.heap.push { cls := .type "slice", data := .fields #[.none, .none, .int (-1) tk] }).objs.size, _, I4.laid (t' := s3.toks) (o := .lst xs.reverse) (fun b ob q => Heap.get?_push_of_some _ q) (Nat.le_refl _) ?_, rfl, q _ (I4.hok.fresh (Nat.le_refl _))⟩
    exact ⟨by rw [List.length_reverse]; exact hz, _, 0, vals_rev r, Heap.get?_push_size _ rfl⟩
end
end SR
/-! sorted(xs), xs a list of plain data, any number of them -/
namespace SD
open PySem PySem.Spec PyProof.Rows L2
open PySem.W (EachIs AllAlike Sortable dataLe)
theorem each_pairs : ∀ {bs : List (V × PyData)} {its : List Value}, Vals (bs.map Prod.fst) its → EachIs (fun v (p : V × PyData) => RelV p.1 v) its bs
  | [], its, r => by
    rw [List.map_nil] at r
    cases r
    exact .nil
  | p :: bs, its, r => by
    rw [List.map_cons] at r
    cases r with
    | cons r1 r2 => exact .cons r1 (each_pairs r2)
theorem pairs_vals : ∀ {bs : List (V × PyData)} {out : List Value}, EachIs (fun v (p : V × PyData) => RelV p.1 v) out bs → Vals (bs.map Prod.fst) out
  | _, _, .nil => .nil
  | _, _, .cons h t => .cons h (pairs_vals t)
def rSortDp (K : PySem.W.Frag) : List V → Hp → VK → Prop := fun xs H Q => ∃ (a : Addr) (bs : List (V × PyData)), xs = [V.ref a] ∧ SqL K H a (bs.map Prod.fst) ∧ (∀ p ∈ bs, Dp K H p.1 p.2) ∧ AllAlike (bs.map Prod.snd) ∧ Sortable (bs.map Prod.snd) ∧ (∀ p ∈ bs, p.2.depth ≤ 60) ∧
  ∀ q, H q = none → Q (.ref q) (upd H q (.lst ((bs.mergeSort (dataLe false Prod.snd)).map Prod.fst)))
variable {X : Cx}
theorem cr_sortedDp (hu : X.A.units + 64 < cLine) : CallR X (.builtin "sorted") (rSortDp X.K) := by
  intro pins s σ H vs us Q I r h
  obtain ⟨a, bs, rfl, hs, hd, hal, hk, hdep, q⟩ := h
  obtain ⟨its, rv, hl, hz⟩ := I.list hs
  rw [Vals.ref1 r]
  have e := each_pairs rv
  have er : EachIs (fun v (p : V × PyData) => ∃ as, Reads s.heap v p.2 as) its bs := by
    have go : ∀ {bs : List (V × PyData)} {its : List Value}, (∀ p ∈ bs, Dp X.K H p.1 p.2) → EachIs (fun v (p : V × PyData) => RelV p.1 v) its bs → EachIs (fun v (p : V × PyData) => ∃ as, Reads s.heap v p.2 as) its bs := by
      intro bs its hd e
      induction e with
      | nil => exact .nil
      | cons h t ih => exact .cons (Dp.reads I _ _ _ (hd _ List.mem_cons_self) h) (ih fun p m => hd p (List.mem_cons_of_mem _ m))
    exact go hd e
  have hlen : bs.length ≤ sizeLine := by rw [List.length_map] at hz; exact hz
  refine PySem.W.sorted_data (enc := Prod.snd) hl.isList e er hal hk hlen (fun p hp => by have := hdep p hp; omega) fun out h1 h2 => ?_
  obtain ⟨ep, he'⟩ := PyProof.Rows.sortedAll_at s.heap its out.toArray
  have hlen2 : ((bs.mergeSort (dataLe false Prod.snd)).map Prod.fst).length ≤ sizeLine := by
    rw [List.length_map, List.length_mergeSort]; exact hlen
  exact ⟨.ref _, upd H (s.heap.objs.size + 1) (.lst ((bs.mergeSort (dataLe false Prod.snd)).map Prod.fst)), I.laid (t' := s.toks) (fun _ _ => PyProof.Rows.sortedAll_old) (Nat.le_succ _) ⟨hlen2, out, ep, pairs_vals h2, he'⟩, rfl, q _ (I.hok.fresh (Nat.le_succ _))⟩
end SD
/-! min(xs), max(xs) over a list or a tuple of plain data, any number of them -/
namespace MM
open PySem PySem.Spec PyProof.Rows L2
open PySem.W (AlikeAll minD maxD min_list_data min_tuple_data max_list_data max_tuple_data readsAll_at)
theorem ix_of {h : Heap} {us : List Value} {ds : List PyData} {as : List Addr} (rs : ReadsAll h us ds as) {i : Nat} {u : Value} (e : us[i]? = some u) : ∃ d bs, ds[i]? = some d ∧ Reads h u d bs := by
  obtain ⟨bs, r, hi, _, _⟩ := readsAll_at rs i u e
  refine ⟨_, bs, ?_, r⟩
  rw [List.getD_eq_getElem?_getD, List.getElem?_eq_getElem hi]
  rfl
theorem lay_at : ∀ {ds : List PyData} {i : Nat} {d : PyData}, PyData.canLayAll0 ds = true → ds[i]? = some d → d.canLay0 = true
  | [], i, d, _, e => by simp at e
  | x :: r, 0, d, h, e => by
    cases e
    rw [PyData.canLayAll0, Bool.and_eq_true] at h
    exact h.1
  | x :: r, i + 1, d, h, e => by
    rw [PyData.canLayAll0, Bool.and_eq_true] at h
    exact lay_at (i := i) h.2 e
def rBest (K : PySem.W.Frag) (best : PyData → List PyData → PyData) : List V → Hp → VK → Prop := fun xs H Q => ∃ (a : Addr) (vs : List V) (y : PyData) (ys : List PyData), xs = [V.ref a] ∧ (SqL K H a vs ∨ SqT K H a vs) ∧ DpAll K H vs (y :: ys) ∧ PyData.canLayAll0 (y :: ys) = true ∧ AlikeAll (y :: ys) ∧ PyData.depthAll (y :: ys) ≤ 60 ∧
  ∀ (i : Nat) (v : V) (d : PyData), vs[i]? = some v → (y :: ys)[i]? = some d → d = best y ys → Q v H
variable {X : Cx}
theorem back {pins : List (Addr × Obj)} {σ : List (Option V)} {H : Hp} {s : Shared} {vs : List V} {us : List Value} {y b : PyData} {ys : List PyData} {as bs : List Addr} {Q : VK} {i : Nat} {v : Value} {h' : Heap} {tk : Nat} (I : L2.Inv X pins σ H s) (rv : Vals vs us) (rs : ReadsAll s.heap us (y :: ys) as) (hl : PyData.canLayAll0 (y :: ys) = true)
    (q : ∀ (i : Nat) (v : V) (d : PyData), vs[i]? = some v → (y :: ys)[i]? = some d → d = b → Q v H) (e : us.toArray[i]? = some v) (r : Reads h' v b bs) (k : ∀ b o, s.heap.get? b = some o → h'.get? b = some o) : ∃ (x : V) (H' : Hp), L2.Inv X pins σ H' { s with heap := h', toks := tk } ∧ RelV x v ∧ Q x H' := by
  have e : us[i]? = some v := by rw [← e]; simp
  obtain ⟨d, cs, ed, rd⟩ := ix_of rs e
  have un := PySem.SeqAt.Reads.unique d b v _ _ (lay_at hl ed) (PyProof.Rows.Reads.keeps k rd) r
  cases ev : vs[i]? with
  | none => have := rv.none_of ev; rw [this] at e; cases e
  | some x =>
    obtain ⟨u, e2, rx⟩ := rv.get ev
    rw [e] at e2
    cases e2
    exact ⟨x, H, I.kept k, rx, q i x d ev ed un⟩
theorem cr_minDp (hc : X.calm = true) (hu : X.A.units + 64 < cLine) : CallR X (.builtin "min") (rBest X.K minD) := by
  intro pins s σ H vs us Q I r h
  obtain ⟨a, vs, y, ys, rfl, hs, hd, hl, ha, hdep, q⟩ := h
  rw [Vals.ref1 r]
  rcases hs with hs | hs
  · obtain ⟨its, rv, hp, hz⟩ := I.list hs
    obtain ⟨as, rs⟩ := Dp.readsAll I _ _ _ hd rv
    exact min_list_data (I.ok.hd hc) hp.isList rs ha (by omega) fun i v h' tk bs e r k => back I rv rs hl q e r k
  · obtain ⟨its, rv, hp, hz⟩ := I.tuple hs
    obtain ⟨as, rs⟩ := Dp.readsAll I _ _ _ hd rv
    exact min_tuple_data (I.ok.hd hc) hp rs ha (by omega) fun i v h' tk bs e r k => back I rv rs hl q e r k
theorem cr_maxDp (hc : X.calm = true) (hu : X.A.units + 64 < cLine) : CallR X (.builtin "max") (rBest X.K maxD) := by
  intro pins s σ H vs us Q I r h
  obtain ⟨a, vs, y, ys, rfl, hs, hd, hl, ha, hdep, q⟩ := h
  rw [Vals.ref1 r]
  rcases hs with hs | hs
  · obtain ⟨its, rv, hp, hz⟩ := I.list hs
    obtain ⟨as, rs⟩ := Dp.readsAll I _ _ _ hd rv
    exact max_list_data (I.ok.hd hc) hp.isList rs ha (by omega) fun i v h' tk bs e r k => back I rv rs hl q e r k
  · obtain ⟨its, rv, hp, hz⟩ := I.tuple hs
    obtain ⟨as, rs⟩ := Dp.readsAll I _ _ _ hd rv
    exact max_tuple_data (I.ok.hd hc) hp rs ha (by omega) fun i v h' tk bs e r k => back I rv rs hl q e r k
end MM
/-! dict(zip(xs, ys)) of two lists or of two tuples -/
namespace ZD
open PySem PySem.Spec PyProof.Rows L2 ZL
theorem fm_map' {α β : Type} (f : α → β) : ∀ l : List α, l.filterMap (fun a => some (f a)) = l.map f
  | [] => rfl
  | a :: r => by rw [List.filterMap_cons, fm_map' f r]; rfl
theorem fm_congr {α β : Type} {f g : α → Option β} : ∀ {l : List α}, (∀ a ∈ l, f a = g a) → l.filterMap f = l.filterMap g
  | [], _ => rfl
  | a :: r, h => by rw [List.filterMap_cons, List.filterMap_cons, h a List.mem_cons_self, fm_congr fun b m => h b (List.mem_cons_of_mem _ m)]
theorem paired_get {α β : Type} {R : α → β → Prop} : ∀ {l : List α} {m : List β}, m.length = l.length → (∀ (i : Nat) p q, l[i]? = some p → m[i]? = some q → R p q) → Paired R l m
  | [], [], _, _ => .nil
  | [], _ :: _, h, _ => by simp at h
  | _ :: _, [], h, _ => by simp at h
  | a :: l, b :: m, h, k => .cons (k 0 a b rfl rfl) (paired_get (by simpa using h) fun i p q e1 e2 => k (i + 1) p q (by simpa using e1) (by simpa using e2))
/-- a zip that is new, as what dict() is handed -/
theorem arg_of {P : Program} {w : World} {z TI TO : Addr} {ch fp : List Addr} {n : Nat} {us : Nat → Value × Value} {Z : Addr → Nat → Heap → Prop} {OK : Heap → Prop} (zw : ∀ q, q ∉ fp → ZW P w z q ch n us (Z q)) (hsub : ∀ b ∈ ch, b ∈ fp)
    (hz : ∀ h, OK h → IsZip h z TI TO .none) (hk : ∀ h h', OK h → (∀ b o, h.get? b = some o → h'.get? b = some o) → OK h') (ht : ∀ h, OK h → ∀ b ∈ fp, ∃ o, h.get? b = some o) (hZ : ∀ q h, q ∉ fp → OK h → Z q 0 h) :
    PairArg P w "zip" z fp ch n (fun i k v => i < n ∧ us i = (k, v)) OK where
  type := fun s ok => ⟨_, hz _ ok, rfl⟩
  notDict := by decide
  keep := hk
  there := ht
  sub := hsub
  noKeys := fun A s Q E hA ok h => getAttrOr_miss_zip (hz _ ok) rfl rfl rfl zip_no_keys (by decide +kernel) hA h
  iter := fun A s d Q E hA ok hd hdf h => by
    have Zd := zw d hdf
    refine Zd.iter A E s Q (hZ d _ hdf ok) (h z ch (Z d) s.heap s.toks ?_ (hZ d _ hdf ok) (fun _ _ e => e) fun b hb => .inl hb)
    exact {
      off := fun hm => hdf (hsub _ hm)
      frame := fun i h h' st k => Zd.keep i h h' st k
      item := fun i s Q E hi st hds fin => Zd.item A E s i Q hi hds st fun g z1 ip k => fin s.heap.objs.size _ _ g s.toks ⟨hi, rfl⟩ (.inl ⟨_, ip, rfl, _, rfl⟩) z1 k
      done := fun s Q E st fin => Zd.stop A E s Q hA st fun g k => fin g s.toks k }
section
variable {X : Cx} {pins : List (Addr × Obj)} {σ : L2.St} {H : Hp} {s : Shared}
/-- dict(z) of a zip that has just been made -/
theorem dict_zip {z : Addr} {fp ch : List Addr} {n : Nat} {us : Nat → Value × Value} {ks : List Key} {vs : List V} {OK : Heap → Prop} {Q : Value → Shared → Prop} {E : Value → Shared → Prop} (hc : X.A.handled = none) (I : Inv X pins σ H s)
    (pa : PairArg X.prog X.w "zip" z fp ch n (fun i k v => i < n ∧ us i = (k, v)) OK) (ok : OK s.heap) (hf : ∀ b ∈ ch, FpOk X pins H b) (hk : ks.length = n) (hv : vs.length = n)
    (rel : ∀ i, i < n → ∃ k v, ks[i]? = some k ∧ vs[i]? = some v ∧ L2.RelV (kV k) (us i).1 ∧ L2.RelV v (us i).2) (hn : n ≤ sizeLine)
    (fin : ∀ (q : Addr) (s' : Shared), H q = none → Inv X pins σ (upd H q (.dK (mergeK [] (ks.zip vs)))) s' → Q (.ref q) s') :
    wpAny (model X.prog X.w) X.A (call (.type "dict") [.ref z]) Q E s := by
  obtain ⟨rs, hr1, hr2⟩ : ∃ rs : List (Key × Value), KV (ks.zip vs) rs ∧ PairsHave (mixKind X.prog X.w) n (fun i k v => i < n ∧ us i = (k, v)) rs := by
    have hlen : ((List.range n).filterMap fun i => ks[i]?.map fun k => (k, (us i).2)).length = n ∧ ∀ i, i < n → ((List.range n).filterMap fun i => ks[i]?.map fun k => (k, (us i).2))[i]? = ks[i]?.map fun k => (k, (us i).2) := by
      have e : ((List.range n).filterMap fun i => ks[i]?.map fun k => (k, (us i).2)) = (List.range n).map fun i => ((ks[i]?).getD (.inl 0), (us i).2) := by
        rw [← fm_map']
        apply fm_congr
        intro i hi
        have : i < ks.length := by rw [hk]; exact List.mem_range.mp hi
        simp [this]
      rw [e]
      refine ⟨by simp, fun i hi => ?_⟩
      have : i < ks.length := by rw [hk]; exact hi
      simp [hi, this]
    refine ⟨_, ?_, hlen.1, fun i key v ⟨hi, e⟩ => ?_⟩
    · refine paired_get ?_ ?_
      · rw [hlen.1, List.length_zip, hk, hv, Nat.min_self]
      · intro i p q e1 e2
        have hi : i < n := by
          have := (List.getElem?_eq_some_iff.mp e2).1
          rwa [hlen.1] at this
        obtain ⟨k, v, e3, e4, r1, r2⟩ := rel i hi
        rw [hlen.2 i hi, e3] at e2
        rw [List.getElem?_zip_eq_some] at e1
        rw [e3, e4] at e1
        obtain ⟨e5, e6⟩ := e1
        cases e2
        cases e5
        cases e6
        exact ⟨rfl, r2⟩
    · obtain ⟨k, v', e3, e4, r1, r2⟩ := rel i hi
      refine ⟨k, ?_, ?_⟩
      · rw [hlen.2 i hi, e3]
        show some (k, (us i).2) = _
        rw [e]
      · rw [e] at r1
        exact kV_is (P := X.prog) (w := X.w) r1
  refine PySem.call_dict_pairs pa hc ok hr2 hn fun h' tk hd' k => ?_
  have hm : (s.heap.objs.size == sysModules) = false := beq_eq_false_iff_ne.mpr (Nat.ne_of_gt I.big)
  have hlen : (mergeK [] (ks.zip vs)).length ≤ sizeLine := by
    refine Nat.le_trans (length_mergeK _ []) ?_
    rw [List.length_nil, Nat.zero_add, List.length_zip, hk, hv, Nat.min_self]
    exact hn
  exact fin s.heap.objs.size _ (I.hok.fresh (Nat.le_refl _)) (I.turnedNew (t' := tk) k hf (Nat.le_refl _) (show ObjOk X.prog X.w _ _ _ (.dK (mergeK [] (ks.zip vs))) from ⟨hlen, hm, merged [] rs, KV.merge hr1 .nil, hd'⟩))
end
end ZD
/-! A functional layer over HandS: plain data D, a local heap of numbered objects, each construct as a Lean function with its soundness. -/
namespace PF
open PySem PySem.Spec PyProof.Rows L2

/-- plain data; ref: a local object by its number; scr: the script -/
inductive D where
  | non | bl (b : Bool) | int (i : Int) | str (s : List Nat) | tup (xs : List D) | lst (xs : List D) | ref (n : Nat) | scr (ns : List Int) | dct (ks vs : List D)

inductive Ob where
  | lst (xs : List D) | dct (kvs : List (D × D)) | tb | dtt (kvs : List (List Key × D))

structure Er where
  cls : List Nat
  fs : List (List Nat × D)

abbrev En := List (Option D)
abbrev Hs := List Ob

inductive R (α : Type) where
  | ok (a : α) (h : Hs) | er (e : Er) (env : En) (h : Hs) | no

def R.bnd {α β : Type} (m : R α) (f : α → Hs → R β) : R β := match m with
  | .ok a h => f a h
  | .er e v h => .er e v h
  | .no => .no
@[simp] theorem bnd_ok {α β : Type} (a : α) (h : Hs) (f : α → Hs → R β) : (R.ok a h).bnd f = f a h := rfl
@[simp] theorem bnd_er {α β : Type} (e : Er) (v : En) (h : Hs) (f : α → Hs → R β) : (R.er e v h : R α).bnd f = .er e v h := rfl
@[simp] theorem bnd_no {α β : Type} (f : α → Hs → R β) : (R.no : R α).bnd f = .no := rfl

abbrev mk (s : List Nat) : Str := ⟨s.toArray⟩
def keyOf : D → Option Key
  | .int i => some (.inl i)
  | .str s => some (.inr (mk s))
  | _ => none
/-! ### what stands for what -/
mutual
def VR (K : PySem.W.Frag) (ι : List Addr) (H : Hp) : D → V → Prop
  | .non, v => v = .non
  | .bl b, v => v = .bl b
  | .int i, v => v = .int i
  | .str s, v => v = .str (mk s) ∧ s.length ≤ 16777216 ∧ ∀ c ∈ s, c < 1114112
  | .tup ds, v => ∃ a vs, v = .ref a ∧ H a = some (.tup vs) ∧ VRs K ι H ds vs
  | .lst ds, v => ∃ a vs, v = .ref a ∧ H a = some (.lst vs) ∧ a ∉ ι ∧ VRs K ι H ds vs
  | .ref n, v => ∃ a, v = .ref a ∧ ι[n]? = some a
  | .scr ns, v => ∃ a, v = .ref a ∧ ((Rd H a (.lst (ns.map V.int)) ∧ a ∉ ι) ∨ SqL K (fun _ => none) a (ns.map V.int))
  | .dct ks ws, v => ∃ (a : Addr) (us : List (Key × V)), v = .ref a ∧ H a = some (.dK us) ∧ a ∉ ι ∧ ks.map keyOf = us.map (fun p => some p.1) ∧ VRs K ι H ks (us.map fun p => kV p.1) ∧ VRs K ι H ws (us.map Prod.snd)
def VRs (K : PySem.W.Frag) (ι : List Addr) (H : Hp) : List D → List V → Prop
  | [], vs => vs = []
  | d :: ds, vs => ∃ v r, vs = v :: r ∧ VR K ι H d v ∧ VRs K ι H ds r
end

def isT : HO → Prop
  | .tup _ => True
  | .frz _ _ => True
  | .ext _ => True
  | _ => False

/-- from (ι, H) to (ι', H'): what the numbers stand for grows, what they do not stand for stays -/
structure Stp (ι : List Addr) (H : Hp) (ι' : List Addr) (H' : Hp) : Prop where
  pre : ∀ (n : Nat) (a : Addr), ι[n]? = some a → ι'[n]? = some a
  keep : ∀ a o, H a = some o → a ∉ ι → H' a = some o ∧ a ∉ ι'
  tup : ∀ a o, H a = some o → isT o → H' a = some o

theorem Stp.refl (ι : List Addr) (H : Hp) : Stp ι H ι H := ⟨fun _ _ h => h, fun _ _ h n => ⟨h, n⟩, fun _ _ h _ => h⟩
theorem Stp.trans {ι ι1 ι2 : List Addr} {H H1 H2 : Hp} (a : Stp ι H ι1 H1) (b : Stp ι1 H1 ι2 H2) : Stp ι H ι2 H2 :=
  ⟨fun n x h => b.pre n x (a.pre n x h), fun x o h n => let ⟨h1, n1⟩ := a.keep x o h n; b.keep x o h1 n1, fun x o h t => b.tup x o (a.tup x o h t) t⟩

theorem sqT_step {K : PySem.W.Frag} {ι ι' : List Addr} {H H' : Hp} (s : Stp ι H ι' H') {a : Addr} {vs : List V} (h : SqT K H a vs) : SqT K H' a vs := by
  rcases h with (h | ⟨o, h⟩) | h
  · exact .inl (.inl (s.tup _ _ h trivial))
  · exact .inl (.inr ⟨o, s.tup _ _ h trivial⟩)
  · exact .inr h
mutual
theorem VR.mono {K : PySem.W.Frag} {ι ι' : List Addr} {H H' : Hp} (s : Stp ι H ι' H') : ∀ (d : D) (v : V), VR K ι H d v → VR K ι' H' d v
  | .non, _, h => h
  | .bl _, _, h => h
  | .int _, _, h => h
  | .str _, _, h => h
  | .tup ds, v, h => by
    unfold VR at h ⊢
    obtain ⟨a, vs, e, q, r⟩ := h
    exact ⟨a, vs, e, s.tup _ _ q trivial, VRs.mono s ds vs r⟩
  | .lst ds, v, h => by
    unfold VR at h ⊢
    obtain ⟨a, vs, e, q, n, r⟩ := h
    obtain ⟨q', n'⟩ := s.keep _ _ q n
    exact ⟨a, vs, e, q', n', VRs.mono s ds vs r⟩
  | .ref n, v, h => by
    unfold VR at h ⊢
    obtain ⟨a, e, q⟩ := h
    exact ⟨a, e, s.pre _ _ q⟩
  | .scr ns, v, h => by
    unfold VR at h ⊢
    obtain ⟨a, e, q⟩ := h
    rcases q with ⟨q | ⟨o, q⟩, n⟩ | q
    · obtain ⟨q', n'⟩ := s.keep _ _ q n
      exact ⟨a, e, .inl ⟨.inl q', n'⟩⟩
    · obtain ⟨q', n'⟩ := s.keep _ _ q n
      exact ⟨a, e, .inl ⟨.inr ⟨o, q'⟩, n'⟩⟩
    · exact ⟨a, e, .inr q⟩
  | .dct ks ws, v, h => by
    unfold VR at h ⊢
    obtain ⟨a, us, e, q, n, k1, k2, k3⟩ := h
    obtain ⟨q', n'⟩ := s.keep _ _ q n
    exact ⟨a, us, e, q', n', k1, VRs.mono s _ _ k2, VRs.mono s _ _ k3⟩
theorem VRs.mono {K : PySem.W.Frag} {ι ι' : List Addr} {H H' : Hp} (s : Stp ι H ι' H') : ∀ (ds : List D) (vs : List V), VRs K ι H ds vs → VRs K ι' H' ds vs
  | [], _, h => h
  | d :: ds, vs, h => by
    unfold VRs at h ⊢
    obtain ⟨v, r, e, h1, h2⟩ := h
    exact ⟨v, r, e, VR.mono s d v h1, VRs.mono s ds r h2⟩
end
end PF
namespace PF
open PySem PySem.Spec PyProof.Rows L2

mutual
def D.pur : D → Bool
  | .non => true
  | .bl _ => true
  | .int _ => true
  | .str _ => true
  | .tup xs => purs xs
  | .lst _ => false
  | .ref _ => false
  | .scr _ => false
  | .dct _ _ => false
def purs : List D → Bool
  | [] => true
  | d :: ds => d.pur && purs ds
end
mutual
def D.nor : D → Bool
  | .non => true
  | .bl _ => true
  | .int _ => true
  | .str _ => true
  | .tup xs => nors xs
  | .lst xs => nors xs
  | .ref _ => false
  | .scr _ => false
  | .dct _ _ => false
def nors : List D → Bool
  | [] => true
  | d :: ds => d.nor && nors ds
end
@[simp] theorem pur_non : D.non.pur = true := rfl
@[simp] theorem pur_bl (b : Bool) : (D.bl b).pur = true := rfl
@[simp] theorem pur_int (i : Int) : (D.int i).pur = true := rfl
@[simp] theorem pur_str (s : List Nat) : (D.str s).pur = true := rfl
@[simp] theorem pur_tup (xs : List D) : (D.tup xs).pur = purs xs := by unfold D.pur; rfl
@[simp] theorem pur_lst (xs : List D) : (D.lst xs).pur = false := rfl
@[simp] theorem pur_ref (n : Nat) : (D.ref n).pur = false := rfl
@[simp] theorem pur_dct (k v : List D) : (D.dct k v).pur = false := rfl
@[simp] theorem nor_dct (k v : List D) : (D.dct k v).nor = false := rfl
@[simp] theorem pur_scr (n : List Int) : (D.scr n).pur = false := rfl
@[simp] theorem purs_nil : purs [] = true := rfl
@[simp] theorem purs_cons (d : D) (ds : List D) : purs (d :: ds) = (d.pur && purs ds) := by rw [purs]
theorem purs_all : ∀ ds : List D, purs ds = ds.all D.pur
  | [] => rfl
  | d :: ds => by rw [purs_cons, purs_all ds]; rfl
@[simp] theorem purs_append (a b : List D) : purs (a ++ b) = (purs a && purs b) := by simp [purs_all]
@[simp] theorem purs_map_int {α : Type} (f : α → Int) (l : List α) : purs (l.map fun x => D.int (f x)) = true := by simp [purs_all]
@[simp] theorem purs_map_int' (l : List Int) : purs (l.map D.int) = true := by simp [purs_all]
@[simp] theorem purs_map_str' (l : List (List Nat)) : purs (l.map D.str) = true := by simp [purs_all]
@[simp] theorem purs_map_bl' (l : List Bool) : purs (l.map D.bl) = true := by simp [purs_all]
theorem purs_map {α : Type} {f : α → D} (hf : ∀ x, (f x).pur = true) (l : List α) : purs (l.map f) = true := by simp [purs_all, hf]
@[simp] theorem nor_non : D.non.nor = true := rfl
@[simp] theorem nor_bl (b : Bool) : (D.bl b).nor = true := rfl
@[simp] theorem nor_int (i : Int) : (D.int i).nor = true := rfl
@[simp] theorem nor_str (s : List Nat) : (D.str s).nor = true := rfl
@[simp] theorem nor_tup (xs : List D) : (D.tup xs).nor = nors xs := by unfold D.nor; rfl
@[simp] theorem nor_lst (xs : List D) : (D.lst xs).nor = nors xs := by unfold D.nor; rfl
@[simp] theorem nor_ref (n : Nat) : (D.ref n).nor = false := rfl
@[simp] theorem nor_scr (n : List Int) : (D.scr n).nor = false := rfl
@[simp] theorem nors_nil : nors [] = true := rfl
@[simp] theorem nors_cons (d : D) (ds : List D) : nors (d :: ds) = (d.nor && nors ds) := by rw [nors]
theorem nors_all : ∀ ds : List D, nors ds = ds.all D.nor
  | [] => rfl
  | d :: ds => by rw [nors_cons, nors_all ds]; rfl
@[simp] theorem nors_append (a b : List D) : nors (a ++ b) = (nors a && nors b) := by simp [nors_all]
mutual
theorem nor_of_pur : ∀ d : D, d.pur = true → d.nor = true
  | .non, _ => rfl
  | .bl _, _ => rfl
  | .int _, _ => rfl
  | .str _, _ => rfl
  | .tup xs, h => by rw [nor_tup]; rw [pur_tup] at h; exact nors_of_purs xs h
  | .lst _, h => by cases h
  | .ref _, h => by cases h
  | .scr _, h => by cases h
  | .dct _ _, h => by cases h
theorem nors_of_purs : ∀ ds : List D, purs ds = true → nors ds = true
  | [], _ => rfl
  | d :: ds, h => by
    rw [purs_cons, Bool.and_eq_true] at h
    rw [nors_cons, Bool.and_eq_true]
    exact ⟨nor_of_pur d h.1, nors_of_purs ds h.2⟩
end

section
variable {K : PySem.W.Frag} {ι ι' S : List Addr} {H H' : Hp}
mutual
theorem VR.pur : ∀ (d : D) (v : V), d.pur = true → VR K ι H d v → VR K ι' H d v
  | .non, _, _, h => h
  | .bl _, _, _, h => h
  | .int _, _, _, h => h
  | .str _, _, _, h => h
  | .tup ds, v, p, h => by
    unfold VR at h ⊢
    obtain ⟨a, vs, e, q, r⟩ := h
    exact ⟨a, vs, e, q, VRs.pur ds vs (by simpa using p) r⟩
  | .lst _, _, p, _ => by cases p
  | .ref _, _, p, _ => by cases p
  | .scr _, _, p, _ => by cases p
  | .dct _ _, _, p, _ => by cases p
theorem VRs.pur : ∀ (ds : List D) (vs : List V), purs ds = true → VRs K ι H ds vs → VRs K ι' H ds vs
  | [], _, _, h => h
  | d :: ds, vs, p, h => by
    unfold VRs at h ⊢
    rw [purs_cons, Bool.and_eq_true] at p
    obtain ⟨v, r, e, h1, h2⟩ := h
    exact ⟨v, r, e, VR.pur d v p.1 h1, VRs.pur ds r p.2 h2⟩
end
mutual
/-- without references: nothing of ι is used -/
theorem VR.sub (hs : ∀ a, a ∈ S → a ∈ ι) : ∀ (d : D) (v : V), d.nor = true → VR K ι H d v → VR K S H d v
  | .non, _, _, h => h
  | .bl _, _, _, h => h
  | .int _, _, _, h => h
  | .str _, _, _, h => h
  | .tup ds, v, p, h => by
    unfold VR at h ⊢
    obtain ⟨a, vs, e, q, r⟩ := h
    exact ⟨a, vs, e, q, VRs.sub hs ds vs (by simpa using p) r⟩
  | .lst ds, v, p, h => by
    unfold VR at h ⊢
    obtain ⟨a, vs, e, q, n, r⟩ := h
    exact ⟨a, vs, e, q, fun m => n (hs a m), VRs.sub hs ds vs (by simpa using p) r⟩
  | .ref _, _, p, _ => by cases p
  | .scr _, _, p, _ => by cases p
  | .dct _ _, _, p, _ => by cases p
theorem VRs.sub (hs : ∀ a, a ∈ S → a ∈ ι) : ∀ (ds : List D) (vs : List V), nors ds = true → VRs K ι H ds vs → VRs K S H ds vs
  | [], _, _, h => h
  | d :: ds, vs, p, h => by
    unfold VRs at h ⊢
    rw [nors_cons, Bool.and_eq_true] at p
    obtain ⟨v, r, e, h1, h2⟩ := h
    exact ⟨v, r, e, VR.sub hs d v p.1 h1, VRs.sub hs ds r p.2 h2⟩
end

/-! ### lists of values -/
theorem VRs.nil_iff {vs : List V} : VRs K ι H [] vs ↔ vs = [] := Iff.rfl
theorem VRs.cons_iff {d : D} {ds : List D} {vs : List V} : VRs K ι H (d :: ds) vs ↔ ∃ v r, vs = v :: r ∧ VR K ι H d v ∧ VRs K ι H ds r := by
  constructor
  · intro h; unfold VRs at h; exact h
  · intro h; unfold VRs; exact h
theorem VRs.cons {d : D} {ds : List D} {v : V} {vs : List V} (h : VR K ι H d v) (t : VRs K ι H ds vs) : VRs K ι H (d :: ds) (v :: vs) := VRs.cons_iff.mpr ⟨v, vs, rfl, h, t⟩
theorem VRs.one {d : D} {v : V} (h : VR K ι H d v) : VRs K ι H [d] [v] := .cons h rfl
theorem VRs.length : ∀ {ds : List D} {vs : List V}, VRs K ι H ds vs → ds.length = vs.length
  | [], vs, h => by rw [VRs.nil_iff.mp h]; rfl
  | d :: ds, vs, h => by
    obtain ⟨v, r, rfl, _, t⟩ := VRs.cons_iff.mp h
    simp [VRs.length t]
theorem VRs.get : ∀ {ds : List D} {vs : List V} {i : Nat} {d : D}, VRs K ι H ds vs → ds[i]? = some d → ∃ v, vs[i]? = some v ∧ VR K ι H d v
  | [], _, _, _, _, e => by simp at e
  | d :: ds, vs, 0, x, h, e => by
    obtain ⟨v, r, rfl, h1, t⟩ := VRs.cons_iff.mp h
    simp at e; subst e
    exact ⟨v, rfl, h1⟩
  | d :: ds, vs, i + 1, x, h, e => by
    obtain ⟨v, r, rfl, h1, t⟩ := VRs.cons_iff.mp h
    obtain ⟨w, h2, h3⟩ := VRs.get t (i := i) (by simpa using e)
    exact ⟨w, by simpa using h2, h3⟩
theorem VRs.back : ∀ {ds : List D} {vs : List V} {i : Nat} {v : V}, VRs K ι H ds vs → vs[i]? = some v → ∃ d, ds[i]? = some d ∧ VR K ι H d v
  | [], vs, i, v, h, e => by rw [VRs.nil_iff.mp h] at e; simp at e
  | d :: ds, vs, 0, x, h, e => by
    obtain ⟨v, r, rfl, h1, t⟩ := VRs.cons_iff.mp h
    simp at e; subst e
    exact ⟨d, rfl, h1⟩
  | d :: ds, vs, i + 1, x, h, e => by
    obtain ⟨v, r, rfl, h1, t⟩ := VRs.cons_iff.mp h
    obtain ⟨w, h2, h3⟩ := VRs.back t (i := i) (by simpa using e)
    exact ⟨w, by simpa using h2, h3⟩
theorem VRs.app : ∀ {ds es : List D} {vs ws : List V}, VRs K ι H ds vs → VRs K ι H es ws → VRs K ι H (ds ++ es) (vs ++ ws)
  | [], _, vs, _, h, t => by rw [VRs.nil_iff.mp h]; exact t
  | d :: ds, es, vs, ws, h, t => by
    obtain ⟨v, r, rfl, h1, q⟩ := VRs.cons_iff.mp h
    exact .cons h1 (VRs.app q t)
theorem VRs.take : ∀ {ds : List D} {vs : List V} (n : Nat), VRs K ι H ds vs → VRs K ι H (ds.take n) (vs.take n)
  | _, _, 0, _ => rfl
  | [], vs, n + 1, h => by rw [VRs.nil_iff.mp h]; rfl
  | d :: ds, vs, n + 1, h => by
    obtain ⟨v, r, rfl, h1, q⟩ := VRs.cons_iff.mp h
    exact .cons h1 (VRs.take n q)
theorem VRs.drop : ∀ {ds : List D} {vs : List V} (n : Nat), VRs K ι H ds vs → VRs K ι H (ds.drop n) (vs.drop n)
  | _, _, 0, h => h
  | [], vs, n + 1, h => by rw [VRs.nil_iff.mp h]; rfl
  | d :: ds, vs, n + 1, h => by
    obtain ⟨v, r, rfl, h1, q⟩ := VRs.cons_iff.mp h
    exact VRs.drop n q
theorem VRs.set {d : D} {v : V} (hd : VR K ι H d v) : ∀ {ds : List D} {vs : List V} (n : Nat), VRs K ι H ds vs → VRs K ι H (ds.set n d) (vs.set n v)
  | [], vs, n, h => by rw [VRs.nil_iff.mp h]; rfl
  | x :: ds, vs, 0, h => by
    obtain ⟨v, r, rfl, h1, q⟩ := VRs.cons_iff.mp h
    exact .cons hd q
  | x :: ds, vs, n + 1, h => by
    obtain ⟨v, r, rfl, h1, q⟩ := VRs.cons_iff.mp h
    exact .cons h1 (VRs.set hd n q)
theorem VRs.erase : ∀ {ds : List D} {vs : List V} (n : Nat), VRs K ι H ds vs → VRs K ι H (ds.eraseIdx n) (vs.eraseIdx n)
  | [], vs, n, h => by rw [VRs.nil_iff.mp h]; rfl
  | x :: ds, vs, 0, h => by
    obtain ⟨v, r, rfl, h1, q⟩ := VRs.cons_iff.mp h
    exact q
  | x :: ds, vs, n + 1, h => by
    obtain ⟨v, r, rfl, h1, q⟩ := VRs.cons_iff.mp h
    exact .cons h1 (VRs.erase n q)
theorem VRs.ints : ∀ {ns : List Int} {vs : List V}, VRs K ι H (ns.map D.int) vs → vs = ns.map V.int
  | [], vs, h => VRs.nil_iff.mp h
  | n :: ns, vs, h => by
    obtain ⟨v, r, rfl, h1, q⟩ := VRs.cons_iff.mp h
    have e : v = .int n := h1
    rw [e, VRs.ints q]; rfl
theorem VRs.of_ints : ∀ (ns : List Int), VRs K ι H (ns.map D.int) (ns.map V.int)
  | [] => rfl
  | n :: ns => .cons rfl (VRs.of_ints ns)

/-! ### objects, the local heap, the slots -/
/-- the entries of a dict -/
def KVR (K : PySem.W.Frag) (ι : List Addr) (H : Hp) (kvs : List (D × D)) (us : List (Key × V)) : Prop :=
  kvs.map (fun p => keyOf p.1) = us.map (fun p => some p.1) ∧ VRs K ι H (kvs.map Prod.fst) (us.map fun p => kV p.1) ∧ VRs K ι H (kvs.map Prod.snd) (us.map Prod.snd)
def ObR (K : PySem.W.Frag) (ι : List Addr) (H : Hp) : Ob → Addr → Prop
  | .lst ds, a => ∃ vs, H a = some (.lst vs) ∧ VRs K ι H ds vs
  | .dct kvs, a => ∃ us, H a = some (.dK us) ∧ KVR K ι H kvs us
  | .dtt kvs, a => ∃ us : List (List Key × V), H a = some (.dT us) ∧ kvs.map Prod.fst = us.map Prod.fst ∧ VRs K ι H (kvs.map Prod.snd) (us.map Prod.snd)
  | .tb, a => (PySem.W.tabIn K "law").map (·.2) = some a ∧ LamX.TabS H a "law.<locals>.<lambda>"
theorem ObR.there {o : Ob} {a : Addr} (h : ObR K ι H o a) : ∃ u, H a = some u ∧ ¬ isT u := by
  cases o with
  | lst ds => obtain ⟨vs, e, _⟩ := h; exact ⟨_, e, fun z => z⟩
  | dct b => obtain ⟨c, e, _⟩ := h; exact ⟨_, e, fun z => z⟩
  | dtt b => obtain ⟨us, e, _⟩ := h; exact ⟨_, e, fun z => z⟩
  | tb => obtain ⟨_, ps, e, _⟩ := h; exact ⟨_, e, fun z => z⟩
theorem KVR.mono {kvs : List (D × D)} {us : List (Key × V)} (s : Stp ι H ι' H') (h : KVR K ι H kvs us) : KVR K ι' H' kvs us := ⟨h.1, VRs.mono s _ _ h.2.1, VRs.mono s _ _ h.2.2⟩
theorem ObR.mono {o : Ob} {a : Addr} (s : Stp ι H ι' H') (e : H' a = H a) (h : ObR K ι H o a) : ObR K ι' H' o a := by
  cases o with
  | lst ds =>
    obtain ⟨vs, q, r⟩ := h
    exact ⟨vs, e.trans q, VRs.mono s ds vs r⟩
  | dct b =>
    obtain ⟨us, q, r⟩ := h
    exact ⟨us, e.trans q, r.mono s⟩
  | dtt b =>
    obtain ⟨us, q, r1, r2⟩ := h
    exact ⟨us, e.trans q, r1, VRs.mono s _ _ r2⟩
  | tb =>
    obtain ⟨q0, ps, q1, q2, q3⟩ := h
    refine ⟨q0, ps, e.trans q1, q2, fun pos cv hc => ?_⟩
    obtain ⟨c, e1, e2⟩ := q3 pos cv hc
    exact ⟨c, e1, s.tup _ _ e2 trivial⟩

structure Rel (K : PySem.W.Frag) (H0 : Hp) (sp : List Addr) (ι : List Addr) (h : Hs) (H : Hp) : Prop where
  len : ι.length = h.length
  nd : ι.Nodup
  ob : ∀ (n : Nat) (o : Ob), h[n]? = some o → ∃ a, ι[n]? = some a ∧ ObR K ι H o a
  base : ∀ a o, H0 a = some o → a ∉ ι → H a = some o
  new : ∀ a ∈ ι, H0 a = none ∨ a ∈ sp
  spin : ∀ a ∈ sp, a ∈ ι

def EnvR (K : PySem.W.Frag) (ι : List Addr) (H : Hp) (env : En) (σ : L2.St) : Prop :=
  env.length = σ.length ∧ ∀ (i : Nat) (d : D), env[i]? = some (some d) → ∃ v, σ[i]? = some (some v) ∧ VR K ι H d v
variable {H0 : Hp} {sp : List Addr} {h : Hs} {env : En} {σ : L2.St}
theorem EnvR.mono (s : Stp ι H ι' H') (e : EnvR K ι H env σ) : EnvR K ι' H' env σ :=
  ⟨e.1, fun i d q => let ⟨v, h1, h2⟩ := e.2 i d q; ⟨v, h1, VR.mono s d v h2⟩⟩
theorem EnvR.set {i : Nat} {d : D} {v : V} (e : EnvR K ι H env σ) (h : VR K ι H d v) : EnvR K ι H (env.set i (some d)) (σ.set i (some v)) := by
  refine ⟨by simp [e.1], fun j x q => ?_⟩
  by_cases hj : j = i
  · subst hj
    have hl : j < env.length := by
      have := (List.getElem?_eq_some_iff.mp q).1
      simpa using this
    rw [List.getElem?_set_self hl] at q
    cases q
    exact ⟨v, List.getElem?_set_self (by rw [← e.1]; exact hl), h⟩
  · rw [List.getElem?_set_ne (Ne.symm hj)] at q
    obtain ⟨w, h1, h2⟩ := e.2 j x q
    exact ⟨w, by rw [List.getElem?_set_ne (Ne.symm hj)]; exact h1, h2⟩
/-- some slots are forgotten -/
def wipeE (env : En) : List Nat → En
  | [] => env
  | i :: r => wipeE (env.set i none) r
theorem EnvR.forget {i : Nat} (e : EnvR K ι H env σ) : EnvR K ι H (env.set i none) σ := by
  refine ⟨by simp [e.1], fun j x q => ?_⟩
  by_cases hj : j = i
  · subst hj
    have hl : j < env.length := by
      have := (List.getElem?_eq_some_iff.mp q).1
      simpa using this
    rw [List.getElem?_set_self hl] at q
    cases q
  · rw [List.getElem?_set_ne (Ne.symm hj)] at q
    exact e.2 j x q
theorem EnvR.wipe : ∀ {ws : List Nat} {env : En}, EnvR K ι H env σ → EnvR K ι H (wipeE env ws) σ
  | [], _, e => e
  | i :: r, env, e => EnvR.wipe (ws := r) e.forget
/-- fewer slots known than HandS knows -/
theorem EnvR.wiped {σ' : L2.St} (e : EnvR K ι H env σ) (hl : σ'.length = σ.length) (hw : ∀ (i : Nat) (d : D), env[i]? = some (some d) → σ'[i]? = σ[i]?) : EnvR K ι H env σ' :=
  ⟨e.1.trans hl.symm, fun i d q => let ⟨v, h1, h2⟩ := e.2 i d q; ⟨v, (hw i d q).trans h1, h2⟩⟩

theorem Rel.inH (r : Rel K H0 sp ι h H) {n : Nat} {a : Addr} (e : ι[n]? = some a) : ∃ u, H a = some u ∧ ¬ isT u := by
  have hn : n < h.length := by rw [← r.len]; exact (List.getElem?_eq_some_iff.mp e).1
  obtain ⟨b, h1, h2⟩ := r.ob n h[n] (by simp [hn])
  rw [e] at h1; cases h1
  exact h2.there
theorem Rel.memH (r : Rel K H0 sp ι h H) {a : Addr} (e : a ∈ ι) : ∃ u, H a = some u ∧ ¬ isT u := by
  obtain ⟨n, hn⟩ := List.getElem?_of_mem e
  exact r.inH hn
theorem Rel.fresh (r : Rel K H0 sp ι h H) {p : Addr} (e : H p = none) : p ∉ ι := fun m => by
  obtain ⟨u, q, _⟩ := r.memH m
  rw [e] at q; cases q
/-- all that was tracked stays -/
theorem Rel.grow (r : Rel K H0 sp ι h H) (g : ∀ a o, H a = some o → H' a = some o) : Rel K H0 sp ι h H' ∧ Stp ι H ι H' := by
  have s : Stp ι H ι H' := ⟨fun _ _ e => e, fun a o e n => ⟨g a o e, n⟩, fun a o e _ => g a o e⟩
  refine ⟨⟨r.len, r.nd, fun n o e => ?_, fun a o e n => g a o (r.base a o e n), r.new, r.spin⟩, s⟩
  obtain ⟨a, h1, h2⟩ := r.ob n o e
  obtain ⟨u, q, _⟩ := h2.there
  exact ⟨a, h1, h2.mono s ((g a u q).trans q.symm)⟩
theorem Rel.tmp (r : Rel K H0 sp ι h H) {p : Addr} {o : HO} (e : H p = none) : Rel K H0 sp ι h (upd H p o) ∧ Stp ι H ι (upd H p o) :=
  r.grow fun a u q => by rw [upd_ne (ne_of_none q e)]; exact q
/-- a new numbered object -/
theorem Rel.adopt (r : Rel K H0 sp ι h H) (g : ∀ a o, H a = some o → H' a = some o) {p : Addr} {o : Ob} (e : H p = none) (new : Stp ι H (ι ++ [p]) H' → ObR K (ι ++ [p]) H' o p) : Rel K H0 sp (ι ++ [p]) (h ++ [o]) H' ∧ Stp ι H (ι ++ [p]) H' := by
  have np0 : p ∉ ι := r.fresh e
  have s : Stp ι H (ι ++ [p]) H' := ⟨fun n a q => by rw [List.getElem?_append_left (List.getElem?_eq_some_iff.mp q).1]; exact q, fun a u q n => ⟨g a u q, fun m => by
    rcases List.mem_append.mp m with m | m
    · exact n m
    · have : a = p := by simpa using m
      rw [this, e] at q; cases q⟩, fun a u q _ => g a u q⟩
  refine ⟨⟨by simp [r.len], ?_, fun n x q => ?_, fun a u q n => g a u (r.base a u q fun m => n (List.mem_append_left _ m)), fun a m => ?_, fun a m => List.mem_append_left _ (r.spin a m)⟩, s⟩
  · rw [List.nodup_append]
    exact ⟨r.nd, by simp, fun a ha b hb => by
      have : b = p := by simpa using hb
      rw [this]; intro z; exact np0 (z ▸ ha)⟩
  · by_cases hn : n < h.length
    · rw [List.getElem?_append_left hn] at q
      obtain ⟨a, h1, h2⟩ := r.ob n x q
      obtain ⟨u, q', _⟩ := h2.there
      exact ⟨a, s.pre n a h1, h2.mono s ((g a u q').trans q'.symm)⟩
    · have hn' : n = h.length := by
        have := (List.getElem?_eq_some_iff.mp q).1
        simp at this; omega
      subst hn'
      simp at q; subst q
      exact ⟨p, by rw [← r.len]; simp, new s⟩
  · rcases List.mem_append.mp m with m | m
    · exact r.new a m
    · have : a = p := by simpa using m
      subst this
      left
      cases q : H0 a with
      | none => rfl
      | some u => rw [r.base a u q np0] at e; cases e
theorem Rel.add (r : Rel K H0 sp ι h H) {p : Addr} {ho : HO} {o : Ob} (e : H p = none) (new : Stp ι H (ι ++ [p]) (upd H p ho) → ObR K (ι ++ [p]) (upd H p ho) o p) : Rel K H0 sp (ι ++ [p]) (h ++ [o]) (upd H p ho) ∧ Stp ι H (ι ++ [p]) (upd H p ho) :=
  r.adopt (fun a u q => by rw [upd_ne (ne_of_none q e)]; exact q) e new
/-- an object of the local heap is changed -/
theorem Rel.put (r : Rel K H0 sp ι h H) {n : Nat} {a : Addr} {ho : HO} {o : Ob} (hn : ι[n]? = some a) (new : Stp ι H ι (upd H a ho) → ObR K ι (upd H a ho) o a) : Rel K H0 sp ι (h.set n o) (upd H a ho) ∧ Stp ι H ι (upd H a ho) := by
  obtain ⟨u, hu, nt⟩ := r.inH hn
  have ma : a ∈ ι := List.mem_of_getElem? hn
  have s : Stp ι H ι (upd H a ho) := ⟨fun _ _ e => e, fun b x q m => ⟨by rw [upd_ne (fun z => m (by rw [z]; exact ma))]; exact q, m⟩, fun b x q t => by
    rw [upd_ne (fun z => by rw [z, hu] at q; cases q; exact nt t)]; exact q⟩
  refine ⟨⟨by simp [r.len], r.nd, fun m x q => ?_, fun b x q m => ?_, r.new, r.spin⟩, s⟩
  · by_cases hm : m = n
    · subst hm
      have hl : m < h.length := by rw [← r.len]; exact (List.getElem?_eq_some_iff.mp hn).1
      rw [List.getElem?_set_self hl] at q
      cases q
      exact ⟨a, hn, new s⟩
    · rw [List.getElem?_set_ne (Ne.symm hm)] at q
      obtain ⟨b, h1, h2⟩ := r.ob m x q
      have hb : b ≠ a := fun z => by
        subst z
        obtain ⟨l1, e1⟩ := List.getElem?_eq_some_iff.mp h1
        obtain ⟨l2, e2⟩ := List.getElem?_eq_some_iff.mp hn
        exact hm ((List.getElem_inj r.nd).mp (e1.trans e2.symm))
      exact ⟨b, h1, h2.mono s (upd_ne hb)⟩
  · rw [upd_ne (fun z => m (by rw [z]; exact ma))]
    exact r.base b x q m
end
end PF
namespace PF
open PySem PySem.Spec PyProof.Rows L2

abbrev Wx := Value → Option Addr → L2.St → Hp → Prop
structure G where
  K : PySem.W.Frag
  er : Er → Hp → Value → Option Addr → Prop

/-- what a result of the functional side is worth -/
def WP {α : Type} (g : G) (H0 : Hp) (sp : List Addr) (W : Wx) (ι : List Addr) (H : Hp) (r : R α) (P : α → Hs → List Addr → Hp → Prop) : Prop :=
  match r with
  | .ok a h => ∀ ι' H', Rel g.K H0 sp ι' h H' → Stp ι H ι' H' → P a h ι' H'
  | .er e env h => ∀ ι' H' cls d σ', Rel g.K H0 sp ι' h H' → Stp ι H ι' H' → g.er e H' cls d → EnvR g.K ι' H' env σ' → W cls d σ' H'
  | .no => False
section
variable {g : G} {H0 : Hp} {sp : List Addr} {W : Wx} {ι ι' : List Addr} {H H' : Hp} {h h' : Hs} {α β : Type}
theorem WP.mono {r : R α} {P P' : α → Hs → List Addr → Hp → Prop} (x : WP g H0 sp W ι H r P) (k : ∀ a h' ι' H', Rel g.K H0 sp ι' h' H' → Stp ι H ι' H' → P a h' ι' H' → P' a h' ι' H') : WP g H0 sp W ι H r P' := by
  cases r with
  | ok a h1 => exact fun ι' H' r s => k a h1 ι' H' r s (x ι' H' r s)
  | er e v h1 => exact x
  | no => exact x
theorem WP.bnd {m : R α} {f : α → Hs → R β} {P : β → Hs → List Addr → Hp → Prop} {P1 : α → Hs → List Addr → Hp → Prop} (x : WP g H0 sp W ι H (m.bnd f) P)
    (k : ∀ a h' ι' H', Rel g.K H0 sp ι' h' H' → Stp ι H ι' H' → WP g H0 sp W ι' H' (f a h') P → P1 a h' ι' H') : WP g H0 sp W ι H m P1 := by
  cases m with
  | ok a h1 =>
    intro ι' H' r s
    refine k a h1 ι' H' r s ?_
    have x : WP g H0 sp W ι H (f a h1) P := x
    revert x
    cases f a h1 with
    | ok b h2 => exact fun x ι2 H2 r2 s2 => x ι2 H2 r2 (s.trans s2)
    | er e v h2 => exact fun x ι2 H2 cls d σ' r2 s2 => x ι2 H2 cls d σ' r2 (s.trans s2)
    | no => exact fun x => x
  | er e v h1 => exact x
  | no => exact x
theorem WP.here {a : α} {P : α → Hs → List Addr → Hp → Prop} (x : WP g H0 sp W ι H (.ok a h) P) (r : Rel g.K H0 sp ι h H) : P a h ι H := x ι H r (Stp.refl _ _)
theorem WP.at {a : α} {P : α → Hs → List Addr → Hp → Prop} (x : WP g H0 sp W ι H (.ok a h') P) (r : Rel g.K H0 sp ι' h' H' ∧ Stp ι H ι' H') : P a h' ι' H' := x ι' H' r.1 r.2
theorem WP.step {r : R α} {P : α → Hs → List Addr → Hp → Prop} (x : WP g H0 sp W ι H r P) (s : Stp ι H ι' H') : WP g H0 sp W ι' H' r P := by
  cases r with
  | ok a h1 => exact fun ι2 H2 r2 s2 => x ι2 H2 r2 (s.trans s2)
  | er e v h1 => exact fun ι2 H2 cls d σ' r2 s2 => x ι2 H2 cls d σ' r2 (s.trans s2)
  | no => exact x
end

abbrev FE := En → Hs → R D
abbrev FT := En → Hs → R Bool
abbrev FA := En → Hs → R (List D)
abbrev FO := En → Hs → R (Option Int)

def SimE (g : G) (W : Wx) (te : TE) (fe : FE) : Prop := ∀ (H0 : Hp) (sp ι : List Addr) (h : Hs) (H : Hp) (env : En) (σ : L2.St) (Q : VK), Rel g.K H0 sp ι h H → EnvR g.K ι H env σ →
  WP g H0 sp W ι H (fe env h) (fun d _ ι' H' => ∀ v, VR g.K ι' H' d v → Q v H') → te σ H Q
def SimT (g : G) (W : Wx) (tt : TT) (ft : FT) : Prop := ∀ (H0 : Hp) (sp ι : List Addr) (h : Hs) (H : Hp) (env : En) (σ : L2.St) (Q : Bool → Hp → Prop), Rel g.K H0 sp ι h H → EnvR g.K ι H env σ →
  WP g H0 sp W ι H (ft env h) (fun b _ _ H' => Q b H') → tt σ H Q
def SimA (g : G) (W : Wx) (ta : TA) (fa : FA) : Prop := ∀ (H0 : Hp) (sp ι : List Addr) (h : Hs) (H : Hp) (env : En) (σ : L2.St) (Q : List V → Hp → Prop), Rel g.K H0 sp ι h H → EnvR g.K ι H env σ →
  WP g H0 sp W ι H (fa env h) (fun ds _ ι' H' => ∀ vs, VRs g.K ι' H' ds vs → Q vs H') → ta σ H Q
def SimO (g : G) (W : Wx) (to : TO) (fo : FO) : Prop := ∀ (H0 : Hp) (sp ι : List Addr) (h : Hs) (H : Hp) (env : En) (σ : L2.St) (Q : Option Int → Hp → Prop), Rel g.K H0 sp ι h H → EnvR g.K ι H env σ →
  WP g H0 sp W ι H (fo env h) (fun o _ _ H' => Q o H') → to σ H Q
/-- by values -/
def SimR2 (g : G) (r : R2) (f : D → D → Hs → R D) : Prop := ∀ (H0 : Hp) (sp ι : List Addr) (h : Hs) (H : Hp) (x y : D) (vx vy : V) (W : Wx) (Q : VK), Rel g.K H0 sp ι h H → VR g.K ι H x vx → VR g.K ι H y vy →
  WP g H0 sp W ι H (f x y h) (fun d _ ι' H' => ∀ v, VR g.K ι' H' d v → Q v H') → r vx vy H Q
def SimU (g : G) (r : V → Hp → VK → Prop) (f : D → Hs → R D) : Prop := ∀ (H0 : Hp) (sp ι : List Addr) (h : Hs) (H : Hp) (x : D) (vx : V) (W : Wx) (Q : VK), Rel g.K H0 sp ι h H → VR g.K ι H x vx →
  WP g H0 sp W ι H (f x h) (fun d _ ι' H' => ∀ v, VR g.K ι' H' d v → Q v H') → r vx H Q
def SimC (g : G) (r : List V → Hp → VK → Prop) (f : List D → Hs → R D) : Prop := ∀ (H0 : Hp) (sp ι : List Addr) (h : Hs) (H : Hp) (xs : List D) (vs : List V) (W : Wx) (Q : VK), Rel g.K H0 sp ι h H → VRs g.K ι H xs vs →
  WP g H0 sp W ι H (f xs h) (fun d _ ι' H' => ∀ v, VR g.K ι' H' d v → Q v H') → r vs H Q

/-! ### names, constants -/
def fVar (i : Nat) : FE := fun env h => match env[i]? with
  | some (some d) => .ok d h
  | _ => .no
def fC (d : D) : FE := fun _ h => .ok d h
section
variable {g : G} {W : Wx} {ta tb te : TE} {fa fb fe : FE} {t u : TT} {ft fu : FT}
theorem sim_var (i : Nat) : SimE g W (tVar i) (fVar i) := by
  intro H0 sp ι h H env σ Q r e w
  unfold fVar at w
  cases hi : env[i]? with
  | none => rw [hi] at w; exact w.elim
  | some o =>
    cases o with
    | none => rw [hi] at w; exact w.elim
    | some d =>
      rw [hi] at w
      obtain ⟨v, h1, h2⟩ := e.2 i d hi
      exact ⟨v, h1, w.here r v h2⟩
theorem sim_int (i : Int) : SimE g W (tC (.int i)) (fC (.int i)) := fun _ _ _ _ _ _ _ _ r _ w => w.here r _ rfl
theorem sim_bl (b : Bool) : SimE g W (tC (.bl b)) (fC (.bl b)) := fun _ _ _ _ _ _ _ _ r _ w => w.here r _ rfl
theorem sim_non : SimE g W (tC .non) (fC .non) := fun _ _ _ _ _ _ _ _ r _ w => w.here r _ rfl
theorem sim_str {x : Str} (s : List Nat) (e : x = mk s := by decide +kernel) (hl : s.length ≤ 16777216 := by decide) (hc : ∀ c ∈ s, c < 1114112 := by decide) : SimE g W (tC (.str x)) (fC (.str s)) := fun _ _ _ _ _ _ _ _ r _ w => w.here r _ (by
  unfold VR
  exact ⟨by rw [e], hl, hc⟩)

/-! ### operators by values -/
def fOp2 (f : D → D → Hs → R D) (fa fb : FE) : FE := fun env h => (fa env h).bnd fun x h1 => (fb env h1).bnd fun y h2 => f x y h2
def fUn (f : D → Hs → R D) (fa : FE) : FE := fun env h => (fa env h).bnd fun x h1 => f x h1
theorem sim_op {r : R2} {f : D → D → Hs → R D} (hr : SimR2 g r f) (ha : SimE g W ta fa) (hb : SimE g W tb fb) : SimE g W (tOp r ta tb) (fOp2 f fa fb) := by
  intro H0 sp ι h H env σ Q R E w
  refine ha H0 sp ι h H env σ _ R E (WP.bnd w fun x h1 ι1 H1 R1 S1 w1 v1 q1 => ?_)
  refine hb H0 sp ι1 h1 H1 env σ _ R1 (E.mono S1) (WP.bnd w1 fun y h2 ι2 H2 R2 S2 w2 v2 q2 => ?_)
  exact hr H0 sp ι2 h2 H2 x y v1 v2 W Q R2 (VR.mono S2 _ _ q1) q2 w2
theorem sim_un {r : V → Hp → VK → Prop} {f : D → Hs → R D} (hr : SimU g r f) (ha : SimE g W ta fa) : SimE g W (tUn r ta) (fUn f fa) := by
  intro H0 sp ι h H env σ Q R E w
  refine ha H0 sp ι h H env σ _ R E (WP.bnd w fun x h1 ι1 H1 R1 S1 w1 v1 q1 => ?_)
  exact hr H0 sp ι1 h1 H1 x v1 W Q R1 q1 w1

/-! ### argument lists, displays -/
def fNil : FA := fun _ h => .ok [] h
def fCons (fa : FE) (fr : FA) : FA := fun env h => (fa env h).bnd fun x h1 => (fr env h1).bnd fun xs h2 => .ok (x :: xs) h2
theorem sim_nil : SimA g W tNil fNil := fun _ _ _ _ _ _ _ _ r _ w => w.here r _ rfl
theorem sim_cons {tr : TA} {fr : FA} (ha : SimE g W ta fa) (hr : SimA g W tr fr) : SimA g W (tCons ta tr) (fCons fa fr) := by
  intro H0 sp ι h H env σ Q R E w
  refine ha H0 sp ι h H env σ _ R E (WP.bnd w fun x h1 ι1 H1 R1 S1 w1 v1 q1 => ?_)
  refine hr H0 sp ι1 h1 H1 env σ _ R1 (E.mono S1) (WP.bnd w1 fun y h2 ι2 H2 R2 S2 w2 v2 q2 => ?_)
  exact w2.here R2 _ (.cons (VR.mono S2 _ _ q1) q2)
def fTup (fa : FA) : FE := fun env h => (fa env h).bnd fun xs h1 => if xs.length ≤ 16777216 then .ok (.tup xs) h1 else .no
def fLst (fa : FA) : FE := fun env h => (fa env h).bnd fun xs h1 => if xs.length ≤ 16777216 then .ok (.ref h1.length) (h1 ++ [.lst xs]) else .no
/-- a new tuple, a new list -/
theorem newT {K : PySem.W.Frag} {H0 : Hp} {sp ι : List Addr} {h : Hs} {H : Hp} {ds : List D} {vs : List V} {p : Addr} (r : Rel K H0 sp ι h H) (q : VRs K ι H ds vs) (e : H p = none) :
    (Rel K H0 sp ι h (upd H p (.tup vs)) ∧ Stp ι H ι (upd H p (.tup vs))) ∧ VR K ι (upd H p (.tup vs)) (.tup ds) (.ref p) := by
  have x := r.tmp (o := .tup vs) e
  refine ⟨x, ?_⟩
  unfold VR
  exact ⟨p, vs, rfl, upd_same, VRs.mono x.2 _ _ q⟩
theorem newL {K : PySem.W.Frag} {H0 : Hp} {sp ι : List Addr} {h : Hs} {H : Hp} {ds : List D} {vs : List V} {p : Addr} (r : Rel K H0 sp ι h H) (q : VRs K ι H ds vs) (e : H p = none) :
    (Rel K H0 sp (ι ++ [p]) (h ++ [.lst ds]) (upd H p (.lst vs)) ∧ Stp ι H (ι ++ [p]) (upd H p (.lst vs))) ∧ VR K (ι ++ [p]) (upd H p (.lst vs)) (.ref h.length) (.ref p) := by
  have x := r.add (ho := .lst vs) (o := .lst ds) e fun s => ⟨vs, upd_same, VRs.mono s _ _ q⟩
  refine ⟨x, ?_⟩
  unfold VR
  exact ⟨p, rfl, by rw [← r.len]; simp⟩
theorem ifN {α : Type} {g : G} {H0 : Hp} {sp ι : List Addr} {W : Wx} {H : Hp} {c : Prop} [Decidable c] {r : R α} {P : α → Hs → List Addr → Hp → Prop} (w : WP g H0 sp W ι H (if c then r else .no) P) : c ∧ WP g H0 sp W ι H r P := by
  by_cases hc : c
  · rw [if_pos hc] at w; exact ⟨hc, w⟩
  · rw [if_neg hc] at w; exact w.elim
theorem szl {n : Nat} (h : n ≤ 16777216) : n ≤ sizeLine := by rw [sizeLine_eq]; exact h
theorem sim_tup {ta : TA} {fa : FA} (ha : SimA g W ta fa) : SimE g W (tTup ta) (fTup fa) := by
  intro H0 sp ι h H env σ Q R E w
  refine ha H0 sp ι h H env σ _ R E (WP.bnd w fun x h1 ι1 H1 R1 S1 w1 v1 q1 => ?_)
  obtain ⟨hl, w1⟩ := ifN w1
  refine ⟨by rw [← q1.length]; exact szl hl, fun p hp => ?_⟩
  obtain ⟨x1, x2⟩ := newT R1 q1 hp
  exact w1.at x1 _ x2
theorem sim_lst {ta : TA} {fa : FA} (ha : SimA g W ta fa) : SimE g W (tLst ta) (fLst fa) := by
  intro H0 sp ι h H env σ Q R E w
  refine ha H0 sp ι h H env σ _ R E (WP.bnd w fun x h1 ι1 H1 R1 S1 w1 v1 q1 => ?_)
  obtain ⟨hl, w1⟩ := ifN w1
  refine ⟨by rw [← q1.length]; exact szl hl, fun p hp => ?_⟩
  obtain ⟨x1, x2⟩ := newL R1 q1 hp
  exact w1.at x1 _ x2

/-! ### tests -/
def fTest (fe : FE) : FT := fun env h => (fe env h).bnd fun x h1 => match x with
  | .bl b => .ok b h1
  | _ => .no
theorem sim_test (ha : SimE g W te fe) : SimT g W (tTest te) (fTest fe) := by
  intro H0 sp ι h H env σ Q R E w
  refine ha H0 sp ι h H env σ _ R E (WP.bnd w fun x h1 ι1 H1 R1 S1 w1 v1 q1 => ?_)
  cases x with
  | bl b => exact ⟨b, q1, w1.here R1⟩
  | _ => exact w1.elim
theorem sim_testB (ha : SimE g W te fe) : SimT g W (tB te) (fTest fe) := sim_test ha
def fAnd (ft fu : FT) : FT := fun env h => (ft env h).bnd fun b h1 => if b = true then fu env h1 else .ok false h1
def fOr (ft fu : FT) : FT := fun env h => (ft env h).bnd fun b h1 => if b = true then .ok true h1 else fu env h1
def fNot (ft : FT) : FT := fun env h => (ft env h).bnd fun b h1 => .ok (!b) h1
theorem sim_and (ha : SimT g W t ft) (hb : SimT g W u fu) : SimT g W (tAnd t u) (fAnd ft fu) := by
  intro H0 sp ι h H env σ Q R E w
  refine ha H0 sp ι h H env σ _ R E (WP.bnd w fun x h1 ι1 H1 R1 S1 w1 => ?_)
  cases x with
  | true => rw [if_pos rfl] at w1 ⊢; exact hb H0 sp ι1 h1 H1 env σ Q R1 (E.mono S1) w1
  | false => rw [if_neg Bool.false_ne_true] at w1 ⊢; exact w1.here R1
theorem sim_or (ha : SimT g W t ft) (hb : SimT g W u fu) : SimT g W (tOr t u) (fOr ft fu) := by
  intro H0 sp ι h H env σ Q R E w
  refine ha H0 sp ι h H env σ _ R E (WP.bnd w fun x h1 ι1 H1 R1 S1 w1 => ?_)
  cases x with
  | true => rw [if_pos rfl] at w1 ⊢; exact w1.here R1
  | false => rw [if_neg Bool.false_ne_true] at w1 ⊢; exact hb H0 sp ι1 h1 H1 env σ Q R1 (E.mono S1) w1
theorem sim_not (ha : SimT g W t ft) : SimT g W (tNot t) (fNot ft) := by
  intro H0 sp ι h H env σ Q R E w
  refine ha H0 sp ι h H env σ _ R E (WP.bnd w fun x h1 ι1 H1 R1 S1 w1 => ?_)
  exact w1.here R1
/-- as values: bools ahead of the last -/
def fAndV (fa fb : FE) : FE := fun env h => (fa env h).bnd fun x h1 => match x with
  | .bl true => fb env h1
  | .bl false => .ok (.bl false) h1
  | _ => .no
def fOrV (fa fb : FE) : FE := fun env h => (fa env h).bnd fun x h1 => match x with
  | .bl false => fb env h1
  | .bl true => .ok (.bl true) h1
  | _ => .no
def fNotV (fa : FE) : FE := fun env h => (fa env h).bnd fun x h1 => match x with
  | .bl b => .ok (.bl (!b)) h1
  | _ => .no
theorem sim_andV (ha : SimE g W ta fa) (hb : SimE g W tb fb) : SimE g W (tAndV ta tb) (fAndV fa fb) := by
  intro H0 sp ι h H env σ Q R E w
  refine ha H0 sp ι h H env σ _ R E (WP.bnd w fun x h1 ι1 H1 R1 S1 w1 v1 q1 => ?_)
  cases x with
  | bl b =>
    refine ⟨b, q1, ?_⟩
    cases b with
    | true => rw [if_pos rfl]; exact hb H0 sp ι1 h1 H1 env σ Q R1 (E.mono S1) w1
    | false => rw [if_neg Bool.false_ne_true]; exact w1.here R1 _ rfl
  | _ => exact w1.elim
theorem sim_orV (ha : SimE g W ta fa) (hb : SimE g W tb fb) : SimE g W (tOrV ta tb) (fOrV fa fb) := by
  intro H0 sp ι h H env σ Q R E w
  refine ha H0 sp ι h H env σ _ R E (WP.bnd w fun x h1 ι1 H1 R1 S1 w1 v1 q1 => ?_)
  cases x with
  | bl b =>
    refine ⟨b, q1, ?_⟩
    cases b with
    | true => rw [if_pos rfl]; exact w1.here R1 _ rfl
    | false => rw [if_neg Bool.false_ne_true]; exact hb H0 sp ι1 h1 H1 env σ Q R1 (E.mono S1) w1
  | _ => exact w1.elim
theorem sim_notV (ha : SimE g W ta fa) : SimE g W (tNotV ta) (fNotV fa) := by
  intro H0 sp ι h H env σ Q R E w
  refine ha H0 sp ι h H env σ _ R E (WP.bnd w fun x h1 ι1 H1 R1 S1 w1 v1 q1 => ?_)
  cases x with
  | bl b => exact ⟨b, q1, w1.here R1 _ rfl⟩
  | _ => exact w1.elim
def fIf (ft : FT) (fa fb : FE) : FE := fun env h => (ft env h).bnd fun b h1 => if b = true then fa env h1 else fb env h1
theorem sim_ifE (ht : SimT g W t ft) (ha : SimE g W ta fa) (hb : SimE g W tb fb) : SimE g W (tIf t ta tb) (fIf ft fa fb) := by
  intro H0 sp ι h H env σ Q R E w
  refine ht H0 sp ι h H env σ _ R E (WP.bnd w fun x h1 ι1 H1 R1 S1 w1 => ?_)
  cases x with
  | true => rw [if_pos rfl] at w1 ⊢; exact ha H0 sp ι1 h1 H1 env σ Q R1 (E.mono S1) w1
  | false => rw [if_neg Bool.false_ne_true] at w1 ⊢; exact hb H0 sp ι1 h1 H1 env σ Q R1 (E.mono S1) w1

/-! ### built-ins by name -/
def fCB (f : List D → Hs → R D) (fa : FA) : FE := fun env h => (fa env h).bnd fun xs h1 => f xs h1
theorem sim_cb {r : List V → Hp → VK → Prop} {f : List D → Hs → R D} {ta : TA} {fa : FA} (hr : SimC g r f) (ha : SimA g W ta fa) : SimE g W (tCB r ta) (fCB f fa) := by
  intro H0 sp ι h H env σ Q R E w
  refine ha H0 sp ι h H env σ _ R E (WP.bnd w fun x h1 ι1 H1 R1 S1 w1 v1 q1 => ?_)
  exact hr H0 sp ι1 h1 H1 x v1 W Q R1 q1 w1
end

/-! ### slices' bounds -/
def fNo : FO := fun _ h => .ok none h
def fSo (fe : FE) : FO := fun env h => (fe env h).bnd fun x h1 => match x with
  | .int i => .ok (some i) h1
  | _ => .no
section
variable {g : G} {W : Wx} {te : TE} {fe : FE}
theorem sim_no : SimO g W tNoPart fNo := fun _ _ _ _ _ _ _ _ r _ w => w.here r
theorem sim_so (ha : SimE g W te fe) : SimO g W (tPart te) (fSo fe) := by
  intro H0 sp ι h H env σ Q R E w
  refine ha H0 sp ι h H env σ _ R E (WP.bnd w fun x h1 ι1 H1 R1 S1 w1 v1 q1 => ?_)
  cases x with
  | int i => exact ⟨i, q1, w1.here R1⟩
  | _ => exact w1.elim
def SimSl (g : G) (r : V → Option Int → Option Int → Hp → VK → Prop) (f : D → Option Int → Option Int → Hs → R D) : Prop := ∀ (H0 : Hp) (sp ι : List Addr) (h : Hs) (H : Hp) (x : D) (lo hi : Option Int) (vx : V) (W : Wx) (Q : VK), Rel g.K H0 sp ι h H → VR g.K ι H x vx →
  WP g H0 sp W ι H (f x lo hi h) (fun d _ ι' H' => ∀ v, VR g.K ι' H' d v → Q v H') → r vx lo hi H Q
def fSl (f : D → Option Int → Option Int → Hs → R D) (fe : FE) (fl fu : FO) : FE := fun env h => (fe env h).bnd fun x h1 => (fl env h1).bnd fun lo h2 => (fu env h2).bnd fun hi h3 => f x lo hi h3
theorem sim_sl {r : V → Option Int → Option Int → Hp → VK → Prop} {f : D → Option Int → Option Int → Hs → R D} {tl tu : TO} {fl fu : FO} (hr : SimSl g r f) (ha : SimE g W te fe) (hl : SimO g W tl fl) (hu : SimO g W tu fu) : SimE g W (tSl r te tl tu) (fSl f fe fl fu) := by
  intro H0 sp ι h H env σ Q R E w
  refine ha H0 sp ι h H env σ _ R E (WP.bnd w fun x h1 ι1 H1 R1 S1 w1 v1 q1 => ?_)
  refine hl H0 sp ι1 h1 H1 env σ _ R1 (E.mono S1) (WP.bnd w1 fun lo h2 ι2 H2 R2 S2 w2 => ?_)
  refine hu H0 sp ι2 h2 H2 env σ _ R2 (E.mono (S1.trans S2)) (WP.bnd w2 fun hi h3 ι3 H3 R3 S3 w3 => ?_)
  exact hr H0 sp ι3 h3 H3 x lo hi v1 W Q R3 (VR.mono (S2.trans S3) _ _ q1) w3
end
end PF
namespace PF
open PySem PySem.Spec PyProof.Rows L2

/-- a list's items -/
def lof (h : Hs) : D → Option (List D)
  | .lst ds => some ds
  | .ref n => match h[n]? with
    | some (.lst ds) => some ds
    | _ => none
  | _ => none
@[simp] theorem lof_lst (h : Hs) (ds : List D) : lof h (.lst ds) = some ds := rfl
section
variable {K : PySem.W.Frag} {H0 : Hp} {sp ι : List Addr} {h : Hs} {H : Hp}
theorem lof_ok (R : Rel K H0 sp ι h H) {d : D} {v : V} {ds : List D} (q : VR K ι H d v) (e : lof h d = some ds) : ∃ a vs, v = .ref a ∧ H a = some (.lst vs) ∧ VRs K ι H ds vs := by
  cases d with
  | lst xs =>
    cases e
    unfold VR at q
    obtain ⟨a, vs, e1, e2, _, e3⟩ := q
    exact ⟨a, vs, e1, e2, e3⟩
  | ref n =>
    unfold VR at q
    obtain ⟨a, e1, e2⟩ := q
    unfold lof at e
    cases hn : h[n]? with
    | none => simp only [hn] at e; cases e
    | some o =>
      simp only [hn] at e
      cases o with
      | lst xs =>
        cases e
        obtain ⟨b, h1, vs, h2, h3⟩ := R.ob n _ hn
        rw [e2] at h1; cases h1
        exact ⟨a, vs, e1, h2, h3⟩
      | dct b => cases e
      | tb => cases e
      | dtt b => cases e
  | _ => cases e
end

/-! ### values without references -/
def dall (f : D → Option D) : List D → Option (List D)
  | [] => some []
  | d :: ds => match f d, dall f ds with
    | some x, some xs => some (x :: xs)
    | _, _ => none
def dref (h : Hs) : Nat → D → Option D
  | 0, d => if d.nor = true then some d else none
  | k + 1, d => if d.nor = true then some d else match d with
    | .ref n => match h[n]? with
      | some (.lst ds) => if nors ds = true then some (.lst ds) else (dall (dref h k) ds).map .lst
      | _ => none
    | .tup ds => (dall (dref h k) ds).map .tup
    | _ => none
theorem dref_nor {h : Hs} {k : Nat} {d : D} (e : d.nor = true) : dref h k d = some d := by
  cases k <;> (unfold dref; rw [if_pos e])
section
variable {K : PySem.W.Frag} {H0 : Hp} {sp ι S : List Addr} {h : Hs} {H : Hp}
theorem dall_ok {f : D → Option D} (hf : ∀ d v d', VR K ι H d v → f d = some d' → VR K S H d' v) : ∀ {ds ds' : List D} {vs : List V}, VRs K ι H ds vs → dall f ds = some ds' → VRs K S H ds' vs
  | [], ds', vs, q, e => by cases e; exact q
  | d :: ds, ds', vs, q, e => by
    obtain ⟨v, r, rfl, q1, q2⟩ := VRs.cons_iff.mp q
    unfold dall at e
    cases h1 : f d with
    | none => rw [h1] at e; cases e
    | some x =>
      cases h2 : dall f ds with
      | none => rw [h1, h2] at e; cases e
      | some xs =>
        rw [h1, h2] at e
        cases e
        exact .cons (hf d v x q1 h1) (dall_ok hf q2 h2)
theorem dref_ok (hS : ∀ a, a ∈ S → a ∈ ι) (hob : ∀ (n : Nat) (ds : List D), h[n]? = some (.lst ds) → ∃ a vs, ι[n]? = some a ∧ H a = some (.lst vs) ∧ VRs K ι H ds vs ∧ a ∉ S) : ∀ (k : Nat) (d : D) (v : V) (d' : D), VR K ι H d v → dref h k d = some d' → VR K S H d' v := by
  have nr : ∀ (d : D) (v : V), d.nor = true → VR K ι H d v → VR K S H d v := fun d v e q => VR.sub hS d v e q
  intro k
  induction k with
  | zero =>
    intro d v d' q e
    unfold dref at e
    by_cases c : d.nor = true
    · rw [if_pos c] at e; cases e; exact nr d v c q
    · rw [if_neg c] at e; cases e
  | succ k ih =>
    intro d v d' q e
    unfold dref at e
    by_cases c : d.nor = true
    · rw [if_pos c] at e; cases e; exact nr d v c q
    · rw [if_neg c] at e
      cases d with
      | ref n =>
        cases h1 : h[n]? with
        | none => simp only [h1] at e; cases e
        | some o =>
          cases o with
          | dct b => simp only [h1] at e; cases e
          | tb => simp only [h1] at e; cases e
          | dtt b => simp only [h1] at e; cases e
          | lst ds =>
            simp only [h1] at e
            unfold VR at q
            obtain ⟨a, rfl, e2⟩ := q
            obtain ⟨b, vs, e3, e4, e5, na⟩ := hob n _ h1
            rw [e2] at e3; cases e3
            by_cases c2 : nors ds = true
            · rw [if_pos c2] at e; cases e
              unfold VR
              exact ⟨a, vs, rfl, e4, na, VRs.sub hS ds vs c2 e5⟩
            · rw [if_neg c2] at e
              cases h2 : dall (dref h k) ds with
              | none => rw [h2] at e; cases e
              | some ds' =>
                rw [h2] at e; cases e
                unfold VR
                exact ⟨a, vs, rfl, e4, na, dall_ok ih e5 h2⟩
      | tup ds =>
        simp only at e
        unfold VR at q
        obtain ⟨a, vs, rfl, e4, e5⟩ := q
        cases h2 : dall (dref h k) ds with
        | none => rw [h2] at e; cases e
        | some ds' =>
          rw [h2] at e; cases e
          unfold VR
          exact ⟨a, vs, rfl, e4, dall_ok ih e5 h2⟩
      | _ => simp only at e; cases e
theorem dref_nil (R : Rel K H0 sp ι h H) {k : Nat} {d d' : D} {v : V} (q : VR K ι H d v) (e : dref h k d = some d') : VR K [] H d' v :=
  dref_ok (fun _ m => by cases m) (fun n ds e => let ⟨a, h1, vs, h2, h3⟩ := R.ob n _ e; ⟨a, vs, h1, h2, h3, fun m => by cases m⟩) k d v d' q e
end
/-- an object that nobody reaches -/
abbrev hid : Ob := .dct [(.non, .non)]
/-- what is handed to a def: a dict of plain data too -/
def dcl (h : Hs) (d : D) : Option D := match d with
  | .dct ks vs => if nors vs = true then some (.dct ks vs) else none
  | .ref n => match h[n]? with
    | some (.dct kvs) => if nors (kvs.map Prod.snd) = true ∧ (kvs.all fun p => (keyOf p.1).isSome) = true then some (.dct (kvs.map Prod.fst) (kvs.map Prod.snd)) else none
    | _ => dref h 6 (.ref n)
  | d => dref h 6 d
section
variable {K : PySem.W.Frag} {H0 : Hp} {sp ι S : List Addr} {h : Hs} {H : Hp}
theorem keys_any {ι' : List Addr} : ∀ {ks : List D} {us : List (Key × V)}, ks.map keyOf = us.map (fun p => some p.1) → VRs K ι H ks (us.map fun p => kV p.1) → VRs K ι' H ks (us.map fun p => kV p.1)
  | [], us, e, q => q
  | k :: ks, [], e, q => by simp at e
  | k :: ks, u :: us, e, q => by
    rw [List.map_cons, List.map_cons, List.cons.injEq] at e
    rw [List.map_cons] at q ⊢
    obtain ⟨v, r, e1, h1, h2⟩ := VRs.cons_iff.mp q
    cases e1
    refine .cons ?_ (keys_any e.2 h2)
    cases k with
    | int i => exact h1
    | str s => exact h1
    | _ => exact absurd e.1 (by simp [keyOf])
theorem dct_sub {ι' : List Addr} (hs : ∀ a, a ∈ ι' → a ∈ ι) {ks vs : List D} {v : V} (hn : nors vs = true) (q : VR K ι H (.dct ks vs) v) : VR K ι' H (.dct ks vs) v := by
  unfold VR at q ⊢
  obtain ⟨a, us, e, p, m, k1, k2, k3⟩ := q
  exact ⟨a, us, e, p, fun z => m (hs a z), k1, keys_any k1 k2, VRs.sub hs vs _ hn k3⟩
theorem dct_ref {ks : List (D × D)} {n : Nat} {v : V} {a : Addr} {us : List (Key × V)} (hs : ∀ a, a ∈ S → a ∈ ι) (hv : VR K ι H (.ref n) v) (hn : nors (ks.map Prod.snd) = true) (e1 : ι[n]? = some a) (e2 : H a = some (.dK us)) (e3 : KVR K ι H ks us) (na : a ∉ S) : VR K S H (.dct (ks.map Prod.fst) (ks.map Prod.snd)) v := by
  unfold VR at hv ⊢
  obtain ⟨b, rfl, e4⟩ := hv
  rw [e1] at e4
  cases e4
  obtain ⟨k1, k2, k3⟩ := e3
  have k1' : (ks.map Prod.fst).map keyOf = us.map (fun p => some p.1) := by rw [List.map_map]; exact k1
  exact ⟨a, us, rfl, e2, na, k1', keys_any k1' k2, VRs.sub hs _ _ hn k3⟩
theorem dcl_ok (hS : ∀ a, a ∈ S → a ∈ ι) (hob : ∀ (n : Nat) (ds : List D), h[n]? = some (.lst ds) → ∃ a vs, ι[n]? = some a ∧ H a = some (.lst vs) ∧ VRs K ι H ds vs ∧ a ∉ S)
    (hod : ∀ (n : Nat) (kvs : List (D × D)), h[n]? = some (.dct kvs) → (kvs.all fun p => (keyOf p.1).isSome) = true → ∃ a us, ι[n]? = some a ∧ H a = some (.dK us) ∧ KVR K ι H kvs us ∧ a ∉ S) (d : D) (v : V) (d' : D) (q : VR K ι H d v) (e : dcl h d = some d') : VR K S H d' v := by
  cases d with
  | dct ks vs =>
    unfold dcl at e
    by_cases c : nors vs = true
    · simp only [if_pos c] at e
      cases e
      exact dct_sub hS c q
    · simp only [if_neg c] at e
      cases e
  | ref n =>
    unfold dcl at e
    cases hn : h[n]? with
    | none => simp only [hn] at e; exact dref_ok hS hob 6 _ v d' q e
    | some o =>
      cases o with
      | lst ds => simp only [hn] at e; exact dref_ok hS hob 6 _ v d' q e
      | dct kvs =>
        simp only [hn] at e
        split at e
        · rename_i c
          cases e
          obtain ⟨a, us, e1, e2, e3, e4⟩ := hod n kvs hn c.2
          exact dct_ref hS q c.1 e1 e2 e3 e4
        · cases e
      | tb => simp only [hn] at e; exact dref_ok hS hob 6 _ v d' q e
      | dtt b => simp only [hn] at e; exact dref_ok hS hob 6 _ v d' q e
  | _ => exact dref_ok hS hob 6 _ v d' q e
theorem dcl_nil (R : Rel K H0 sp ι h H) {d d' : D} {v : V} (q : VR K ι H d v) (e : dcl h d = some d') : VR K [] H d' v :=
  dcl_ok (fun _ m => by cases m) (fun n ds e => let ⟨a, h1, vs, h2, h3⟩ := R.ob n _ e; ⟨a, vs, h1, h2, h3, fun m => by cases m⟩) (fun n kvs e _ => let ⟨a, h1, us, h2, h3⟩ := R.ob n _ e; ⟨a, us, h1, h2, h3, fun m => by cases m⟩) d v d' q e
theorem dcl_nor {h : Hs} {d : D} (e : d.nor = true) : dcl h d = some d := by
  cases d with
  | dct ks vs => cases e
  | ref n => cases e
  | _ => exact dref_nor e
end

/-! ### == -/
mutual
def deq : D → D → Bool
  | .non, .non => true
  | .bl a, .bl b => a == b
  | .bl a, .int j => (if a then 1 else 0) == j
  | .int i, .bl b => i == (if b then 1 else 0)
  | .int i, .int j => i == j
  | .str x, .str y => x == y
  | .lst xs, .lst ys => deqs xs ys
  | .tup xs, .tup ys => deqs xs ys
  | _, _ => false
def deqs : List D → List D → Bool
  | [], [] => true
  | x :: xs, y :: ys => deq x y && deqs xs ys
  | _, _ => false
end
mutual
def dpt : D → Nat
  | .tup xs => dpts xs + 1
  | .lst xs => dpts xs + 1
  | _ => 0
def dpts : List D → Nat
  | [] => 0
  | x :: xs => max (dpt x) (dpts xs)
end
mutual
def toPy : D → PyData
  | .non => .none
  | .bl b => .bool b
  | .int i => .int i
  | .str s => .str (mk s)
  | .tup xs => .tuple (toPys xs)
  | .lst xs => .list (toPys xs)
  | .ref _ => .none
  | .scr _ => .none
  | .dct _ _ => .none
def toPys : List D → List PyData
  | [] => []
  | x :: xs => toPy x :: toPys xs
end
mutual
theorem toPy_depth : ∀ d : D, (toPy d).depth = dpt d
  | .non => by simp [toPy, PyData.depth, dpt]
  | .bl _ => by simp [toPy, PyData.depth, dpt]
  | .int _ => by simp [toPy, PyData.depth, dpt]
  | .str _ => by simp [toPy, PyData.depth, dpt]
  | .tup xs => by simp [toPy, PyData.depth, dpt, toPys_depth xs]
  | .lst xs => by simp [toPy, PyData.depth, dpt, toPys_depth xs]
  | .ref _ => by simp [toPy, PyData.depth, dpt]
  | .scr _ => by simp [toPy, PyData.depth, dpt]
  | .dct _ _ => by simp [toPy, PyData.depth, dpt]
theorem toPys_depth : ∀ ds : List D, PyData.depthAll (toPys ds) = dpts ds
  | [] => by simp [toPys, PyData.depthAll, dpts]
  | x :: xs => by simp [toPys, PyData.depthAll, dpts, toPy_depth x, toPys_depth xs]
end
mutual
theorem toPy_eqv : ∀ d e : D, d.nor = true → e.nor = true → PyData.eqv (toPy d) (toPy e) = deq d e
  | .tup xs, .tup ys, p, q => by
    simp only [toPy, PyData.eqv, deq]
    exact toPys_eqv xs ys (by simpa using p) (by simpa using q)
  | .lst xs, .lst ys, p, q => by
    simp only [toPy, PyData.eqv, deq]
    exact toPys_eqv xs ys (by simpa using p) (by simpa using q)
  | .str x, .str y, p, q => by
    simp only [toPy, PyData.eqv, deq]
    rw [Bool.eq_iff_iff]
    simp [mk]
  | .ref _, _, p, _ => by cases p
  | .scr _, _, p, _ => by cases p
  | .dct _ _, _, p, _ => by cases p
  | .non, e, _, q => by cases e <;> first | rfl | (cases q)
  | .bl _, e, _, q => by cases e <;> first | rfl | (cases q)
  | .int _, e, _, q => by cases e <;> first | rfl | (cases q)
  | .str _, .non, _, _ => rfl
  | .str _, .bl _, _, _ => rfl
  | .str _, .int _, _, _ => rfl
  | .str _, .tup _, _, _ => rfl
  | .str _, .lst _, _, _ => rfl
  | .str _, .ref _, _, q => by cases q
  | .str _, .scr _, _, q => by cases q
  | .tup _, .non, _, _ => rfl
  | .tup _, .bl _, _, _ => rfl
  | .tup _, .int _, _, _ => rfl
  | .tup _, .str _, _, _ => rfl
  | .tup _, .lst _, _, _ => rfl
  | .tup _, .ref _, _, q => by cases q
  | .tup _, .scr _, _, q => by cases q
  | .lst _, .non, _, _ => rfl
  | .lst _, .bl _, _, _ => rfl
  | .lst _, .int _, _, _ => rfl
  | .lst _, .str _, _, _ => rfl
  | .lst _, .tup _, _, _ => rfl
  | .lst _, .ref _, _, q => by cases q
  | .lst _, .scr _, _, q => by cases q
theorem toPys_eqv : ∀ ds es : List D, nors ds = true → nors es = true → PyData.eqvAll (toPys ds) (toPys es) = deqs ds es
  | [], [], _, _ => rfl
  | [], _ :: _, _, _ => rfl
  | _ :: _, [], _, _ => rfl
  | x :: xs, y :: ys, p, q => by
    rw [nors_cons, Bool.and_eq_true] at p q
    simp only [toPys, PyData.eqvAll, deqs]
    rw [toPy_eqv x y p.1 q.1, toPys_eqv xs ys p.2 q.2]
end
section
variable {K : PySem.W.Frag} {ι : List Addr} {H : Hp}
mutual
theorem VR.dp : ∀ (d : D) (v : V), d.nor = true → VR K ι H d v → Dp K H v (toPy d) ∧ (toPy d).canLay0 = true
  | .non, v, _, h => by
    have e : v = .non := h
    subst e; exact ⟨.non, rfl⟩
  | .bl b, v, _, h => by
    have e : v = .bl b := h
    subst e; exact ⟨.bl b, rfl⟩
  | .int i, v, _, h => by
    have e : v = .int i := h
    subst e; exact ⟨.int i, rfl⟩
  | .str s, v, _, h => by
    unfold VR at h
    obtain ⟨e, _, hc⟩ := h
    subst e
    refine ⟨.str _, ?_⟩
    simp only [toPy, PyData.canLay0, PyData.strOk]
    rw [Array.all_eq_true]
    intro i hi
    have hi' : i < s.length := by simpa using hi
    have := hc (s[i]) (List.getElem_mem hi')
    simpa using this
  | .tup xs, v, p, h => by
    unfold VR at h
    obtain ⟨a, vs, e, q, r⟩ := h
    subst e
    obtain ⟨h1, h2⟩ := VRs.dp xs vs (by simpa using p) r
    exact ⟨.tup (SqT.of q) h1, by simpa [toPy, PyData.canLay0] using h2⟩
  | .lst xs, v, p, h => by
    unfold VR at h
    obtain ⟨a, vs, e, q, _, r⟩ := h
    subst e
    obtain ⟨h1, h2⟩ := VRs.dp xs vs (by simpa using p) r
    exact ⟨.lst (SqL.of q) h1, by simpa [toPy, PyData.canLay0] using h2⟩
  | .ref _, _, p, _ => by cases p
  | .scr _, _, p, _ => by cases p
  | .dct _ _, _, p, _ => by cases p
theorem VRs.dp : ∀ (ds : List D) (vs : List V), nors ds = true → VRs K ι H ds vs → DpAll K H vs (toPys ds) ∧ PyData.canLayAll0 (toPys ds) = true
  | [], vs, _, h => by
    rw [VRs.nil_iff.mp h]; exact ⟨.nil, rfl⟩
  | d :: ds, vs, p, h => by
    obtain ⟨v, r, rfl, q1, q2⟩ := VRs.cons_iff.mp h
    rw [nors_cons, Bool.and_eq_true] at p
    obtain ⟨a1, a2⟩ := VR.dp d v p.1 q1
    obtain ⟨b1, b2⟩ := VRs.dp ds r p.2 q2
    exact ⟨.cons a1 b1, by simp [toPys, PyData.canLayAll0, a2, b2]⟩
end
end
mutual
theorem dref_is_nor {h : Hs} : ∀ (k : Nat) (d d' : D), dref h k d = some d' → d'.nor = true
  | 0, d, d', e => by
    unfold dref at e
    by_cases c : d.nor = true
    · rw [if_pos c] at e; cases e; exact c
    · rw [if_neg c] at e; cases e
  | k + 1, d, d', e => by
    unfold dref at e
    by_cases c : d.nor = true
    · rw [if_pos c] at e; cases e; exact c
    · rw [if_neg c] at e
      cases d with
      | ref n =>
        cases h1 : h[n]? with
        | none => simp only [h1] at e; cases e
        | some o =>
          cases o with
          | dct b => simp only [h1] at e; cases e
          | tb => simp only [h1] at e; cases e
          | dtt b => simp only [h1] at e; cases e
          | lst ds =>
            simp only [h1] at e
            by_cases c2 : nors ds = true
            · rw [if_pos c2] at e; cases e; rw [nor_lst]; exact c2
            · rw [if_neg c2] at e
              cases h2 : dall (dref h k) ds with
              | none => rw [h2] at e; cases e
              | some ds' => rw [h2] at e; cases e; rw [nor_lst]; exact drefs_is_nor k ds ds' h2
      | tup ds =>
        simp only at e
        cases h2 : dall (dref h k) ds with
        | none => rw [h2] at e; cases e
        | some ds' => rw [h2] at e; cases e; rw [nor_tup]; exact drefs_is_nor k ds ds' h2
      | _ => simp only at e; cases e
theorem drefs_is_nor {h : Hs} : ∀ (k : Nat) (ds ds' : List D), dall (dref h k) ds = some ds' → nors ds' = true
  | k, [], ds', e => by cases e; rfl
  | k, d :: ds, ds', e => by
    unfold dall at e
    cases h1 : dref h k d with
    | none => rw [h1] at e; cases e
    | some x =>
      cases h2 : dall (dref h k) ds with
      | none => rw [h1, h2] at e; cases e
      | some xs =>
        rw [h1, h2] at e
        cases e
        rw [nors_cons, dref_is_nor k d x h1, drefs_is_nor k ds xs h2]; rfl
end
def eqD (x y : D) (h : Hs) : R D := match dref h 6 x, dref h 6 y with
  | some a, some b => if dpt a ≤ 60 ∧ dpt b ≤ 60 then .ok (.bl (deq a b)) h else .no
  | _, _ => .no
def neD (x y : D) (h : Hs) : R D := match dref h 6 x, dref h 6 y with
  | some a, some b => if dpt a ≤ 60 ∧ dpt b ≤ 60 then .ok (.bl (!deq a b)) h else .no
  | _, _ => .no
section
variable {g : G}
theorem shaped_of {d : D} (h1 : (toPy d).canLay0 = true) (h2 : dpt d ≤ 60) : SeqAt.shaped (toPy d) = true := by
  unfold SeqAt.shaped
  rw [h1, toPy_depth, Bool.true_and]
  exact decide_eq_true (by omega)
theorem sim_eq : SimR2 g (rEqD g.K) eqD := by
  intro H0 sp ι h H x y vx vy W Q R qx qy w
  unfold eqD at w
  cases h1 : dref h 6 x with
  | none => rw [h1] at w; exact w.elim
  | some a =>
    cases h2 : dref h 6 y with
    | none => rw [h1, h2] at w; exact w.elim
    | some b =>
      rw [h1, h2] at w
      obtain ⟨⟨d1, d2⟩, w⟩ := ifN w
      have n1 := dref_is_nor 6 x a h1
      have n2 := dref_is_nor 6 y b h2
      obtain ⟨p1, c1⟩ := VR.dp a vx n1 (dref_nil R qx h1)
      obtain ⟨p2, c2⟩ := VR.dp b vy n2 (dref_nil R qy h2)
      refine ⟨_, _, p1, p2, shaped_of c1 d1, shaped_of c2 d2, ?_⟩
      rw [toPy_eqv a b n1 n2]
      exact w.here R _ rfl
theorem sim_ne : SimR2 g (rNeD g.K) neD := by
  intro H0 sp ι h H x y vx vy W Q R qx qy w
  unfold neD at w
  cases h1 : dref h 6 x with
  | none => rw [h1] at w; exact w.elim
  | some a =>
    cases h2 : dref h 6 y with
    | none => rw [h1, h2] at w; exact w.elim
    | some b =>
      rw [h1, h2] at w
      obtain ⟨⟨d1, d2⟩, w⟩ := ifN w
      have n1 := dref_is_nor 6 x a h1
      have n2 := dref_is_nor 6 y b h2
      obtain ⟨p1, c1⟩ := VR.dp a vx n1 (dref_nil R qx h1)
      obtain ⟨p2, c2⟩ := VR.dp b vy n2 (dref_nil R qy h2)
      refine ⟨_, _, p1, p2, shaped_of c1 d1, shaped_of c2 d2, ?_⟩
      rw [toPy_eqv a b n1 n2]
      exact w.here R _ rfl
end
end PF
namespace PF
open PySem PySem.Spec PyProof.Rows L2
section
variable {X : Cx} {g : G}

/-! ### arithmetic -/
/-- + of ints, texts, lists, tuples -/
def uAdd (K : PySem.W.Frag) : R2 := fun x y H Q => rI0 (fun i j => .int (i + j)) x y H Q ∨ (fun x y H Q => ∃ i j, x = .str i ∧ y = .str j ∧ i.length + j.length ≤ sizeLine ∧ Q (.str (i ++ j)) H) x y H Q ∨ rCat x y H Q ∨ rCatA K x y H Q
theorem op_uAdd : OpR X (binaryOp .Add) (uAdd X.K) := op_add.or (op_add_str.or (op_cat.or op_catA))
def addD : D → D → Hs → R D
  | .int i, .int j, h => .ok (.int (i + j)) h
  | .str s, .str t, h => if s.length + t.length ≤ 16777216 then .ok (.str (s ++ t)) h else .no
  | .tup s, .tup t, h => if s.length + t.length ≤ 16777216 then .ok (.tup (s ++ t)) h else .no
  | x, y, h => match lof h x, lof h y with
    | some a, some b => if a.length + b.length ≤ 16777216 then .ok (.ref h.length) (h ++ [.lst (a ++ b)]) else .no
    | _, _ => .no
theorem mk_app (s t : List Nat) : mk s ++ mk t = mk (s ++ t) := by
  show (⟨s.toArray ++ t.toArray⟩ : Str) = ⟨(s ++ t).toArray⟩
  rw [List.append_toArray]
theorem mk_len (s : List Nat) : (mk s).length = s.length := by
  show s.toArray.size = s.length
  exact List.size_toArray ..
theorem VR.strI {K : PySem.W.Frag} {ι : List Addr} {H : Hp} {s : List Nat} (h1 : s.length ≤ 16777216) (h2 : ∀ c ∈ s, c < 1114112) : VR K ι H (.str s) (.str (mk s)) := by
  unfold VR; exact ⟨rfl, h1, h2⟩
theorem VR.strE {K : PySem.W.Frag} {ι : List Addr} {H : Hp} {s : List Nat} {v : V} (h : VR K ι H (.str s) v) : v = .str (mk s) ∧ s.length ≤ 16777216 ∧ ∀ c ∈ s, c < 1114112 := by
  unfold VR at h; exact h
theorem VR.tupE {K : PySem.W.Frag} {ι : List Addr} {H : Hp} {s : List D} {v : V} (h : VR K ι H (.tup s) v) : ∃ a vs, v = .ref a ∧ SqT K H a vs ∧ VRs K ι H s vs := by
  unfold VR at h; obtain ⟨a, vs, e, q, r⟩ := h; exact ⟨a, vs, e, SqT.of q, r⟩
theorem VR.tupX {K : PySem.W.Frag} {ι : List Addr} {H : Hp} {s : List D} {v : V} (h : VR K ι H (.tup s) v) : ∃ a vs, v = .ref a ∧ H a = some (.tup vs) ∧ VRs K ι H s vs := by
  unfold VR at h; exact h
theorem VR.tupI {K : PySem.W.Frag} {ι : List Addr} {H : Hp} {s : List D} {a : Addr} {vs : List V} (h : H a = some (.tup vs)) (q : VRs K ι H s vs) : VR K ι H (.tup s) (.ref a) := by
  unfold VR; exact ⟨a, vs, rfl, h, q⟩
theorem sim_add : SimR2 g (uAdd g.K) addD := by
  intro H0 sp ι h H x y vx vy W Q R qx qy w
  unfold addD at w
  split at w
  · exact .inl ⟨_, _, qx, qy, w.here R _ rfl⟩
  · obtain ⟨hl, w⟩ := ifN w
    obtain ⟨rfl, l1, c1⟩ := qx.strE
    obtain ⟨rfl, l2, c2⟩ := qy.strE
    refine .inr (.inl ⟨_, _, rfl, rfl, by rw [mk_len, mk_len]; exact szl hl, ?_⟩)
    rw [mk_app]
    exact w.here R _ (.strI (by simpa using hl) fun c hc => (List.mem_append.mp hc).elim (c1 c) (c2 c))
  · obtain ⟨hl, w⟩ := ifN w
    obtain ⟨a, vs, rfl, p1, r1⟩ := qx.tupX
    obtain ⟨b, ws, rfl, p2, r2⟩ := qy.tupX
    refine .inr (.inr (.inr ⟨a, b, vs, ws, rfl, rfl, SqT.of p1, SqT.of p2, by rw [← r1.length, ← r2.length]; exact szl hl, fun e => ?_, fun _ e => ?_, fun _ _ p hp => ?_⟩))
    · subst e
      refine w.here R _ (.tupI p2 ?_)
      have e0 : _ = [] := List.eq_nil_of_length_eq_zero (by simpa using r1.length)
      rw [e0]; exact r2
    · subst e
      refine w.here R _ (.tupI p1 ?_)
      have e0 : _ = [] := List.eq_nil_of_length_eq_zero (by simpa using r2.length)
      rw [e0, List.append_nil]; exact r1
    · obtain ⟨x1, x2⟩ := newT R (r1.app r2) hp
      exact w.at x1 _ x2
  · split at w
    · rename_i a b e1 e2
      obtain ⟨hl, w⟩ := ifN w
      obtain ⟨p, vs, rfl, p1, r1⟩ := lof_ok R qx e1
      obtain ⟨q, ws, rfl, p2, r2⟩ := lof_ok R qy e2
      refine .inr (.inr (.inl ⟨p, q, vs, ws, rfl, rfl, p1, p2, by rw [← r1.length, ← r2.length]; exact szl hl, fun n hn => ?_⟩))
      obtain ⟨x1, x2⟩ := newL R (r1.app r2) hn
      exact w.at x1 _ x2
    · exact w.elim
def subD : D → D → Hs → R D
  | .int i, .int j, h => .ok (.int (i - j)) h
  | _, _, _ => .no
theorem sim_sub : SimR2 g (rI0 fun i j => .int (i - j)) subD := by
  intro H0 sp ι h H x y vx vy W Q R qx qy w
  unfold subD at w
  split at w
  · exact ⟨_, _, qx, qy, w.here R _ rfl⟩
  · exact w.elim
/-- // and % by any small number but 0 -/
def fdivD : D → D → Hs → R D
  | .int i, .int j, h => if j ≠ 0 ∧ j.natAbs < 1073741824 then .ok (.int (i.fdiv j)) h else .no
  | _, _, _ => .no
def modD : D → D → Hs → R D
  | .int i, .int j, h => if j ≠ 0 then .ok (.int (i.fmod j)) h else .no
  | _, _, _ => .no
theorem sim_fdiv : SimR2 g (rI CDivN fun i j => .int (i.fdiv j)) fdivD := by
  intro H0 sp ι h H x y vx vy W Q R qx qy w
  unfold fdivD at w
  split at w
  · obtain ⟨hc, w⟩ := ifN w
    exact ⟨_, _, qx, qy, hc, w.here R _ rfl⟩
  · exact w.elim
theorem sim_mod : SimR2 g (rI (fun _ j => j ≠ 0) fun i j => .int (i.fmod j)) modD := by
  intro H0 sp ι h H x y vx vy W Q R qx qy w
  unfold modD at w
  split at w
  · obtain ⟨hc, w⟩ := ifN w
    exact ⟨_, _, qx, qy, hc, w.here R _ rfl⟩
  · exact w.elim
def powD : D → D → Hs → R D
  | .int i, .int j, h => if 0 ≤ j ∧ j ≤ 1000000 ∧ i.natAbs < 18446744073709551616 then .ok (.int (i ^ j.toNat)) h else .no
  | _, _, _ => .no
theorem sim_pow : SimR2 g (rI CPow fun i j => .int (i ^ j.toNat)) powD := by
  intro H0 sp ι h H x y vx vy W Q R qx qy w
  unfold powD at w
  split at w
  · obtain ⟨hc, w⟩ := ifN w
    exact ⟨_, _, qx, qy, hc, w.here R _ rfl⟩
  · exact w.elim
/-- text * n -/
theorem foldl_app (x : Array Nat) : ∀ (n : Nat) (acc : Array Nat), (List.replicate n x).foldl (· ++ ·) acc = acc ++ ((List.replicate n x.toList).flatten).toArray
  | 0, acc => by simp
  | n + 1, acc => by
    rw [List.replicate_succ, List.foldl_cons, foldl_app x n, List.replicate_succ, List.flatten_cons, ← List.append_toArray, ← Array.append_assoc]
theorem len_rep {α : Type} (n : Nat) (s : List α) : ((List.replicate n s).flatten).length = n * s.length := by
  induction n with
  | zero => simp
  | succ n ih => rw [List.replicate_succ, List.flatten_cons, List.length_append, ih, Nat.succ_mul, Nat.add_comm]
def rRepS : R2 := fun x y H Q => ∃ (s : Str) (k : Int), x = .str s ∧ y = .int k ∧ -(2 ^ 63) ≤ k ∧ k < 2 ^ 63 ∧ s.length * k.toNat ≤ 16777216 ∧ Q (.str ⟨((List.replicate k.toNat s.cps.toList).flatten).toArray⟩) H
theorem op_repS : OpR X (binaryOp .Mult) rRepS := by
  intro pins s σ H x y v u Q I rx ry h
  obtain ⟨z, k, rfl, rfl, h1, h2, hz, q⟩ := h
  obtain ⟨t, rfl⟩ := rx
  obtain ⟨t', rfl⟩ := ry
  have e0 : (z.length : Int) = ((z.cps.size : Nat) : Int) := rfl
  have hl : ∀ (m : Nat), z.length * m = z.cps.size * m := fun _ => rfl
  refine PySem.P.mul_str ?_ (fun c1 c2 => ?_) (fun c1 c2 => ?_) ?_
  · rw [decide_eq_false (by omega), decide_eq_false (by omega)]; rfl
  · intro hgt
    have hk : (1 : Int) < k := by
      rw [Bool.or_eq_false_iff] at c2
      have : ¬ k = 1 := fun e => by rw [e] at c2; exact absurd c2.1 (by decide)
      omega
    have a1 : (z.length : Int) * k ≤ 16777216 := by
      have : ((z.length * k.toNat : Nat) : Int) ≤ ((16777216 : Nat) : Int) := Int.ofNat_le.mpr hz
      rw [Int.natCast_mul, Int.toNat_of_nonneg (by omega)] at this
      exact this
    have a2 : (2 ^ 63 - 1 : Int) / k + 1 ≤ (z.length : Int) := by omega
    have a3 : (2 ^ 63 - 1 : Int) < ((2 ^ 63 - 1 : Int) / k + 1) * k := by
      have := Int.lt_ediv_add_one_mul_self (2 ^ 63 - 1 : Int) (show (0 : Int) < k by omega)
      exact this
    have a4 : ((2 ^ 63 - 1 : Int) / k + 1) * k ≤ (z.length : Int) * k := Int.mul_le_mul_of_nonneg_right a2 (by omega)
    omega
  · show Builtin.Str.tooLong (z.length * k.toNat) = false
    unfold Builtin.Str.tooLong
    rw [sizeLine_eq]
    simp
    exact hz
  · by_cases c : k < 1
    · rw [if_pos c]
      have e : k.toNat = 0 := by omega
      rw [e] at q
      exact ⟨by decide, .str _, H, I.tok _, ⟨_, rfl⟩, q⟩
    · rw [if_neg c]
      by_cases c2 : (k == 1 || z.length == 0) = true
      · rw [if_pos c2]
        rw [Bool.or_eq_true] at c2
        have e : (⟨((List.replicate k.toNat z.cps.toList).flatten).toArray⟩ : Str) = z := by
          rcases c2 with c2 | c2
          · have : k = 1 := by simpa using c2
            subst this
            show (⟨((List.replicate 1 z.cps.toList).flatten).toArray⟩ : Str) = z
            simp
          · have : z.cps.size = 0 := by
              have : z.length = 0 := by simpa using c2
              exact this
            have e2 : z.cps = #[] := Array.eq_empty_of_size_eq_zero this
            cases z with
            | mk cps =>
              simp only at e2
              subst e2
              simp
        rw [e] at q
        exact ⟨.str z, H, I, ⟨t, rfl⟩, q⟩
      · rw [if_neg c2]
        have e : (List.replicate k.toNat z.cps).foldl (· ++ ·) #[] = ((List.replicate k.toNat z.cps.toList).flatten).toArray := by
          rw [foldl_app]; simp
        refine ⟨?_, .str _, H, I.tok _, ⟨_, rfl⟩, ?_⟩
        · show ((List.replicate k.toNat z.cps).foldl (· ++ ·) #[]).size ≤ sizeLine
          rw [e, List.size_toArray, len_rep, sizeLine_eq, Nat.mul_comm]
          exact hz
        · rw [e]; exact q
def uMul (K : PySem.W.Frag) : R2 := fun x y H Q => rI CMul (fun i j => .int (i * j)) x y H Q ∨ rRepS x y H Q ∨ rRep x y H Q
theorem op_uMul : OpR X (binaryOp .Mult) (uMul X.K) := op_mul.or (op_repS.or op_rep)
def mulD : D → D → Hs → R D
  | .int i, .int j, h => if i.natAbs < 18446744073709551616 ∨ j.natAbs < 18446744073709551616 then .ok (.int (i * j)) h else .no
  | .str s, .int k, h => if k.natAbs < 1000000000 ∧ s.length * k.toNat ≤ 16777216 then .ok (.str (List.replicate k.toNat s).flatten) h else .no
  | x, .int k, h => match lof h x with
    | some a => if k.natAbs < 1000000000 ∧ a.length * k.toNat ≤ 16777216 then .ok (.ref h.length) (h ++ [.lst (List.replicate k.toNat a).flatten]) else .no
    | _ => .no
  | _, _, _ => .no
theorem VRs.rep {K : PySem.W.Frag} {ι : List Addr} {H : Hp} {ds : List D} {vs : List V} (h : VRs K ι H ds vs) : ∀ k : Nat, VRs K ι H (List.replicate k ds).flatten (List.replicate k vs).flatten
  | 0 => rfl
  | k + 1 => by
    rw [List.replicate_succ, List.flatten_cons, List.replicate_succ, List.flatten_cons]
    exact h.app (VRs.rep h k)
theorem sim_mul : SimR2 g (uMul g.K) mulD := by
  intro H0 sp ι h H x y vx vy W Q R qx qy w
  unfold mulD at w
  split at w
  · obtain ⟨hc, w⟩ := ifN w
    exact .inl ⟨_, _, qx, qy, by unfold CMul; omega, w.here R _ rfl⟩
  · obtain ⟨⟨hk, hl⟩, w⟩ := ifN w
    obtain ⟨rfl, l1, c1⟩ := qx.strE
    refine .inr (.inl ⟨_, _, rfl, qy, by omega, by omega, by rw [mk_len]; exact hl, ?_⟩)
    have e : (⟨((List.replicate (Int.toNat ‹Int›) (mk ‹List Nat›).cps.toList).flatten).toArray⟩ : Str) = mk (List.replicate (Int.toNat ‹Int›) ‹List Nat›).flatten := by simp [mk]
    refine w.here R _ (.strI ?_ ?_)
    · rw [len_rep, Nat.mul_comm]; exact hl
    · intro c hc
      obtain ⟨l, h1, h2⟩ := List.mem_flatten.mp hc
      rw [(List.mem_replicate.mp h1).2] at h2
      exact c1 c h2
  · split at w
    · rename_i a e1
      obtain ⟨⟨hk, hl⟩, w⟩ := ifN w
      obtain ⟨p, vs, rfl, p1, r1⟩ := lof_ok R qx e1
      refine .inr (.inr ⟨p, _, vs, rfl, qy, p1, by omega, by omega, by rw [← r1.length]; exact szl hl, fun n hn => ?_⟩)
      obtain ⟨x1, x2⟩ := newL R (r1.rep _) hn
      exact w.at x1 _ x2
    · exact w.elim
  · exact w.elim
def negD : D → Hs → R D
  | .int i, h => .ok (.int (-i)) h
  | _, _ => .no
theorem sim_neg : SimU g (rU fun i => .int (-i)) negD := by
  intro H0 sp ι h H x vx W Q R qx w
  unfold negD at w
  split at w
  · exact ⟨_, qx, w.here R _ rfl⟩
  · exact w.elim

/-! ### order -/
def uLt : R2 := fun x y H Q => rI0 (fun i j => .bl (decide (i < j))) x y H Q ∨ (fun x y H Q => ∃ i j : Str, x = .str i ∧ y = .str j ∧ Q (.bl (decide (i.cps.toList < j.cps.toList))) H) x y H Q
def uLe : R2 := fun x y H Q => rI0 (fun i j => .bl (decide (i ≤ j))) x y H Q ∨ (fun x y H Q => ∃ i j : Str, x = .str i ∧ y = .str j ∧ Q (.bl (!decide (j.cps.toList < i.cps.toList))) H) x y H Q
def uGt : R2 := fun x y H Q => rI0 (fun i j => .bl (decide (j < i))) x y H Q ∨ (fun x y H Q => ∃ i j : Str, x = .str i ∧ y = .str j ∧ Q (.bl (decide (j.cps.toList < i.cps.toList))) H) x y H Q
def uGe : R2 := fun x y H Q => rI0 (fun i j => .bl (decide (j ≤ i))) x y H Q ∨ (fun x y H Q => ∃ i j : Str, x = .str i ∧ y = .str j ∧ Q (.bl (!decide (i.cps.toList < j.cps.toList))) H) x y H Q
theorem op_uLt : OpR X (compareOp .Lt) uLt := op_lt.or op_lt_str
theorem op_uLe : OpR X (compareOp .LtE) uLe := op_le.or op_le_str
theorem op_uGt : OpR X (compareOp .Gt) uGt := op_gt.or op_gt_str
theorem op_uGe : OpR X (compareOp .GtE) uGe := op_ge.or op_ge_str
def ltD : D → D → Hs → R D
  | .int i, .int j, h => .ok (.bl (decide (i < j))) h
  | .str s, .str t, h => .ok (.bl (decide (s < t))) h
  | _, _, _ => .no
def leD : D → D → Hs → R D
  | .int i, .int j, h => .ok (.bl (decide (i ≤ j))) h
  | .str s, .str t, h => .ok (.bl (!decide (t < s))) h
  | _, _, _ => .no
def gtD : D → D → Hs → R D
  | .int i, .int j, h => .ok (.bl (decide (j < i))) h
  | .str s, .str t, h => .ok (.bl (decide (t < s))) h
  | _, _, _ => .no
def geD : D → D → Hs → R D
  | .int i, .int j, h => .ok (.bl (decide (j ≤ i))) h
  | .str s, .str t, h => .ok (.bl (!decide (s < t))) h
  | _, _, _ => .no
theorem sim_lt : SimR2 g uLt ltD := by
  intro H0 sp ι h H x y vx vy W Q R qx qy w
  unfold ltD at w
  split at w
  · exact .inl ⟨_, _, qx, qy, w.here R _ rfl⟩
  · exact .inr ⟨_, _, qx.strE.1, qy.strE.1, w.here R _ rfl⟩
  · exact w.elim
theorem sim_le : SimR2 g uLe leD := by
  intro H0 sp ι h H x y vx vy W Q R qx qy w
  unfold leD at w
  split at w
  · exact .inl ⟨_, _, qx, qy, w.here R _ rfl⟩
  · exact .inr ⟨_, _, qx.strE.1, qy.strE.1, w.here R _ rfl⟩
  · exact w.elim
theorem sim_gt : SimR2 g uGt gtD := by
  intro H0 sp ι h H x y vx vy W Q R qx qy w
  unfold gtD at w
  split at w
  · exact .inl ⟨_, _, qx, qy, w.here R _ rfl⟩
  · exact .inr ⟨_, _, qx.strE.1, qy.strE.1, w.here R _ rfl⟩
  · exact w.elim
theorem sim_ge : SimR2 g uGe geD := by
  intro H0 sp ι h H x y vx vy W Q R qx qy w
  unfold geD at w
  split at w
  · exact .inl ⟨_, _, qx, qy, w.here R _ rfl⟩
  · exact .inr ⟨_, _, qx.strE.1, qy.strE.1, w.here R _ rfl⟩
  · exact w.elim
end
end PF
namespace PF
open PySem PySem.Spec PyProof.Rows L2
section
variable {X : Cx} {g : G}

/-! ### in -/
def uIn (K : PySem.W.Frag) : R2 := fun x y H Q => (fun x y H Q => ∃ (c : Nat) (z : Str), x = .str ⟨#[c]⟩ ∧ y = .str z ∧ Q (.bl (decide (c ∈ z.cps.toList))) H) x y H Q ∨ rInD K x y H Q ∨ rIn K false x y H Q
def uNotIn (K : PySem.W.Frag) : R2 := fun x y H Q => (fun x y H Q => ∃ (c : Nat) (z : Str), x = .str ⟨#[c]⟩ ∧ y = .str z ∧ Q (.bl (!decide (c ∈ z.cps.toList))) H) x y H Q ∨ rNotInD K x y H Q ∨ rIn K true x y H Q
theorem room65 {k : Nat} {A : Around} (r : Room k A) : A.units + 65 < cLine := by have := r.un; omega
theorem op_uIn {k : Nat} (hr : Room k X.A) : OpR X (compareOp .In) (uIn X.K) := op_in_sign.or ((op_inD (room65 hr)).or op_in_seq)
theorem op_uNotIn {k : Nat} (hr : Room k X.A) : OpR X (compareOp .NotIn) (uNotIn X.K) := op_notIn_sign.or ((op_notInD (room65 hr)).or op_notIn_seq)
def D.flat : D → Bool
  | .non => true
  | .bl _ => true
  | .int _ => true
  | .str _ => true
  | _ => false
def inB (x y : D) (h : Hs) : Option Bool := match y with
  | .str t => match x with
    | .str [c] => some (decide (c ∈ t))
    | _ => none
  | .tup ds => if x.flat = true ∧ ds.all D.flat = true then some (ds.any fun z => deq z x) else none
  | y => match dref h 6 x, dref h 6 y with
    | some a, some (.lst ds) => if dpt a ≤ 60 ∧ dpts ds ≤ 59 then some (ds.any fun z => deq z a) else none
    | _, _ => none
def inD (x y : D) (h : Hs) : R D := match inB x y h with
  | some b => .ok (.bl b) h
  | none => .no
def notInD (x y : D) (h : Hs) : R D := match inB x y h with
  | some b => .ok (.bl (!b)) h
  | none => .no
theorem VR.flat {K : PySem.W.Frag} {ι : List Addr} {H : Hp} {d : D} {v : V} (f : d.flat = true) (q : VR K ι H d v) : flatV v = true := by
  cases d with
  | non => have e : v = .non := q; subst e; rfl
  | bl b => have e : v = .bl b := q; subst e; rfl
  | int i => have e : v = .int i := q; subst e; rfl
  | str s => obtain ⟨rfl, _⟩ := q.strE; rfl
  | _ => cases f
theorem VR.flat_eq {K : PySem.W.Frag} {ι : List Addr} {H : Hp} {d e : D} {v w : V} (f : d.flat = true) (f' : e.flat = true) (q : VR K ι H d v) (q' : VR K ι H e w) : eqV v w = deq d e := by
  cases d with
  | non =>
    have e1 : v = .non := q
    subst e1
    cases e with
    | non => have e2 : w = .non := q'; subst e2; rfl
    | bl b => have e2 : w = .bl b := q'; subst e2; rfl
    | int b => have e2 : w = .int b := q'; subst e2; rfl
    | str b => obtain ⟨rfl, _⟩ := q'.strE; rfl
    | _ => cases f'
  | bl a =>
    have e1 : v = .bl a := q
    subst e1
    cases e with
    | non => have e2 : w = .non := q'; subst e2; rfl
    | bl b => have e2 : w = .bl b := q'; subst e2; rfl
    | int b => have e2 : w = .int b := q'; subst e2; rfl
    | str b => obtain ⟨rfl, _⟩ := q'.strE; rfl
    | _ => cases f'
  | int a =>
    have e1 : v = .int a := q
    subst e1
    cases e with
    | non => have e2 : w = .non := q'; subst e2; rfl
    | bl b => have e2 : w = .bl b := q'; subst e2; rfl
    | int b => have e2 : w = .int b := q'; subst e2; rfl
    | str b => obtain ⟨rfl, _⟩ := q'.strE; rfl
    | _ => cases f'
  | str a =>
    obtain ⟨rfl, _⟩ := q.strE
    cases e with
    | non => have e2 : w = .non := q'; subst e2; rfl
    | bl b => have e2 : w = .bl b := q'; subst e2; rfl
    | int b => have e2 : w = .int b := q'; subst e2; rfl
    | str b =>
      obtain ⟨rfl, _⟩ := q'.strE
      show (mk a == mk b) = deq (.str a) (.str b)
      unfold deq
      rw [Bool.eq_iff_iff]
      simp [mk]
    | _ => cases f'
  | _ => cases f
theorem any_py : ∀ {ds : List D} {a : D}, nors ds = true → a.nor = true → ((toPys ds).any fun z => PyData.eqv z (toPy a)) = ds.any fun z => deq z a
  | [], a, _, _ => by simp [toPys]
  | d :: ds, a, h, ha => by
    rw [nors_cons, Bool.and_eq_true] at h
    simp only [toPys, List.any_cons]
    rw [toPy_eqv d a h.1 ha, any_py h.2 ha]
theorem any_flat {K : PySem.W.Frag} {ι : List Addr} {H : Hp} {x : D} {vx : V} (fx : x.flat = true) (qx : VR K ι H x vx) : ∀ {ds : List D} {vs : List V}, ds.all D.flat = true → VRs K ι H ds vs → inV vx vs = (ds.any fun z => deq z x) ∧ vs.all flatV = true
  | [], vs, _, q => by rw [VRs.nil_iff.mp q]; exact ⟨rfl, rfl⟩
  | d :: ds, vs, f, q => by
    obtain ⟨v, r, rfl, q1, q2⟩ := VRs.cons_iff.mp q
    rw [List.all_cons, Bool.and_eq_true] at f
    obtain ⟨e1, e2⟩ := any_flat fx qx f.2 q2
    refine ⟨?_, ?_⟩
    · show (eqV v vx || inV vx r) = (deq d x || ds.any fun z => deq z x)
      rw [VR.flat_eq f.1 fx q1 qx, e1]
    · show (flatV v && r.all flatV) = true
      rw [VR.flat f.1 q1, e2]; rfl
theorem in_core {H0 : Hp} {sp ι : List Addr} {h : Hs} {H : Hp} {x y : D} {vx vy : V} {b : Bool} (R : Rel g.K H0 sp ι h H) (qx : VR g.K ι H x vx) (qy : VR g.K ι H y vy) (e : inB x y h = some b) :
    (∃ (c : Nat) (z : Str), vx = .str ⟨#[c]⟩ ∧ vy = .str z ∧ b = decide (c ∈ z.cps.toList)) ∨ (∃ d ds, Dp g.K H vx d ∧ Dp g.K H vy (.list ds) ∧ SeqAt.shaped d = true ∧ SeqAt.shaped (.list ds) = true ∧ b = ds.any fun z => PyData.eqv z d) ∨
      ∃ p xs, vy = .ref p ∧ (SqL g.K H p xs ∨ SqT g.K H p xs) ∧ flatV vx = true ∧ xs.all flatV = true ∧ b = inV vx xs := by
  have deep : ∀ (z : D), z = y → (match dref h 6 x, dref h 6 z with
      | some a, some (.lst ds) => if dpt a ≤ 60 ∧ dpts ds ≤ 59 then some (ds.any fun z => deq z a) else none
      | _, _ => none) = some b → ∃ d ds, Dp g.K H vx d ∧ Dp g.K H vy (.list ds) ∧ SeqAt.shaped d = true ∧ SeqAt.shaped (.list ds) = true ∧ b = ds.any fun z => PyData.eqv z d := by
    rintro z rfl e
    cases h1 : dref h 6 x with
    | none => rw [h1] at e; cases e
    | some a =>
      cases h2 : dref h 6 z with
      | none => rw [h1, h2] at e; cases e
      | some c =>
        rw [h1, h2] at e
        cases c with
        | lst ds =>
          simp only at e
          by_cases hc : dpt a ≤ 60 ∧ dpts ds ≤ 59
          · rw [if_pos hc] at e
            cases e
            have n1 := dref_is_nor 6 x a h1
            have n2 := dref_is_nor 6 z _ h2
            obtain ⟨p1, c1⟩ := VR.dp a vx n1 (dref_nil R qx h1)
            obtain ⟨p2, c2⟩ := VR.dp _ vy n2 (dref_nil R qy h2)
            have e2 : toPy (.lst ds) = .list (toPys ds) := by simp [toPy]
            have s2 := shaped_of c2 (show dpt (.lst ds) ≤ 60 by unfold dpt; omega)
            rw [e2] at p2 s2
            exact ⟨_, _, p1, p2, shaped_of c1 hc.1, s2, (any_py (by simpa using n2) n1).symm⟩
          · rw [if_neg hc] at e; cases e
        | _ => cases e
  unfold inB at e
  split at e
  · split at e
    · cases e
      obtain ⟨rfl, _⟩ := qx.strE
      obtain ⟨rfl, _⟩ := qy.strE
      exact .inl ⟨_, _, rfl, rfl, by simp [mk]⟩
    · cases e
  · rename_i ds
    by_cases hc : x.flat = true ∧ ds.all D.flat = true
    · rw [if_pos hc] at e
      cases e
      obtain ⟨a, vs, rfl, p, r⟩ := qy.tupE
      obtain ⟨e1, e2⟩ := any_flat hc.1 qx hc.2 r
      exact .inr (.inr ⟨a, vs, rfl, .inr p, VR.flat hc.1 qx, e2, e1.symm⟩)
    · rw [if_neg hc] at e; cases e
  · exact .inr (.inl (deep _ rfl e))
theorem sim_in : SimR2 g (uIn g.K) inD := by
  intro H0 sp ι h H x y vx vy W Q R qx qy w
  unfold inD at w
  cases e : inB x y h with
  | none => rw [e] at w; exact w.elim
  | some b =>
    rw [e] at w
    have q := w.here R _ rfl
    rcases in_core R qx qy e with ⟨c, z, e1, e2, rfl⟩ | ⟨d, ds, p1, p2, s1, s2, rfl⟩ | ⟨p, xs, e1, p1, f1, f2, rfl⟩
    · exact .inl ⟨c, z, e1, e2, q⟩
    · exact .inr (.inl ⟨d, ds, p1, p2, s1, s2, q⟩)
    · exact .inr (.inr ⟨p, xs, e1, p1, f1, f2, q⟩)
theorem sim_notIn : SimR2 g (uNotIn g.K) notInD := by
  intro H0 sp ι h H x y vx vy W Q R qx qy w
  unfold notInD at w
  cases e : inB x y h with
  | none => rw [e] at w; exact w.elim
  | some b =>
    rw [e] at w
    have q := w.here R _ rfl
    rcases in_core R qx qy e with ⟨c, z, e1, e2, rfl⟩ | ⟨d, ds, p1, p2, s1, s2, rfl⟩ | ⟨p, xs, e1, p1, f1, f2, rfl⟩
    · exact .inl ⟨c, z, e1, e2, q⟩
    · exact .inr (.inl ⟨d, ds, p1, p2, s1, s2, q⟩)
    · exact .inr (.inr ⟨p, xs, e1, p1, f1, f2, q⟩)

/-! ### is None -/
def D.isNon : D → Bool
  | .non => true
  | _ => false
def isND : D → D → Hs → R D
  | x, .non, h => .ok (.bl x.isNon) h
  | _, _, _ => .no
def notND : D → D → Hs → R D
  | x, .non, h => .ok (.bl (!x.isNon)) h
  | _, _, _ => .no
theorem VR.is_non {K : PySem.W.Frag} {ι : List Addr} {H : Hp} {d : D} {v : V} (q : VR K ι H d v) : decide (v = .non) = d.isNon := by
  cases d with
  | non => have e : v = .non := q; subst e; rfl
  | bl b => have e : v = .bl b := q; subst e; rfl
  | int i => have e : v = .int i := q; subst e; rfl
  | str s => obtain ⟨rfl, _⟩ := q.strE; rfl
  | tup ds => obtain ⟨a, vs, rfl, _⟩ := q.tupE; rfl
  | lst ds => unfold VR at q; obtain ⟨a, vs, rfl, _⟩ := q; rfl
  | ref n => unfold VR at q; obtain ⟨a, rfl, _⟩ := q; rfl
  | scr n => unfold VR at q; obtain ⟨a, rfl, _⟩ := q; rfl
  | dct ks ws => unfold VR at q; obtain ⟨a, us, rfl, _⟩ := q; rfl
theorem sim_isN : SimR2 g (fun x y H Q => y = .non ∧ Q (.bl (decide (x = .non))) H) isND := by
  intro H0 sp ι h H x y vx vy W Q R qx qy w
  unfold isND at w
  split at w
  · refine ⟨qy, ?_⟩
    rw [qx.is_non]
    exact w.here R _ rfl
  · exact w.elim
theorem sim_notN : SimR2 g (fun x y H Q => y = .non ∧ Q (.bl (!decide (x = .non))) H) notND := by
  intro H0 sp ι h H x y vx vy W Q R qx qy w
  unfold notND at w
  split at w
  · refine ⟨qy, ?_⟩
    rw [qx.is_non]
    exact w.here R _ rfl
  · exact w.elim

/-! ### places -/
def ixD : D → D → Hs → R D
  | .str s, .int i, h => match atI s i with
    | some c => .ok (.str [c]) h
    | none => .no
  | .tup ds, .int i, h => match atI ds i with
    | some d => .ok d h
    | none => .no
  | x, .int i, h => match lof h x with
    | some ds => match atI ds i with
      | some d => .ok d h
      | none => .no
    | none => .no
  | _, _, _ => .no
theorem atI_VRs {K : PySem.W.Frag} {ι : List Addr} {H : Hp} {ds : List D} {vs : List V} {i : Int} {d : D} (q : VRs K ι H ds vs) (e : atI ds i = some d) : ∃ v, atI vs i = some v ∧ VR K ι H d v := by
  unfold atI at e ⊢
  rw [← q.length]
  cases h : ixN ds.length i with
  | none => rw [h] at e; cases e
  | some j =>
    rw [h] at e
    obtain ⟨v, h1, h2⟩ := q.get (show ds[j]? = some d from e)
    exact ⟨v, h1, h2⟩
theorem atI_mem {α : Type} {xs : List α} {i : Int} {c : α} (e : atI xs i = some c) : c ∈ xs := by
  unfold atI at e
  cases h : ixN xs.length i with
  | none => rw [h] at e; cases e
  | some j => rw [h] at e; exact List.mem_of_getElem? (show xs[j]? = some c from e)
theorem sim_ix : SimR2 g (rIx g.K) ixD := by
  intro H0 sp ι h H x y vx vy W Q R qx qy w
  unfold ixD at w
  split at w
  · split at w
    · rename_i s i c e
      obtain ⟨rfl, l1, c1⟩ := qx.strE
      refine .inr (.inr ⟨_, _, c, rfl, qy, by rw [mk_len]; exact szl l1, by simpa [mk] using e, ?_⟩)
      exact w.here R _ (.strI (s := [c]) (by simp) (fun c' hc => by
        have : c' = c := by simpa using hc
        rw [this]; exact c1 c (atI_mem e)))
    · exact w.elim
  · split at w
    · rename_i ds i d e
      obtain ⟨a, vs, rfl, p, r⟩ := qx.tupE
      obtain ⟨v, e2, qv⟩ := atI_VRs r e
      exact .inr (.inl ⟨a, vs, _, v, rfl, qy, p, e2, w.here R v qv⟩)
    · exact w.elim
  · split at w
    · rename_i ds e1
      split at w
      · rename_i d e
        obtain ⟨a, vs, rfl, p, r⟩ := lof_ok R qx e1
        obtain ⟨v, e2, qv⟩ := atI_VRs r e
        exact .inl ⟨a, vs, _, v, rfl, qy, SqL.of p, e2, w.here R v qv⟩
      · exact w.elim
    · exact w.elim
  · exact w.elim

/-! ### slices -/
def cutL {α : Type} (xs : List α) (lo hi : Option Int) : List α := (xs.drop (HT.sIx xs.length 0 lo)).take (HT.sIx xs.length xs.length hi - HT.sIx xs.length 0 lo)
def slD : D → Option Int → Option Int → Hs → R D
  | .str s, lo, hi, h => .ok (.str (cutL s lo hi)) h
  | .tup ds, lo, hi, h => .ok (.tup (cutL ds lo hi)) h
  | .scr ns, lo, hi, h => .ok (.ref h.length) (h ++ [.lst ((cutL ns lo hi).map D.int)])
  | x, lo, hi, h => match lof h x with
    | some ds => .ok (.ref h.length) (h ++ [.lst (cutL ds lo hi)])
    | none => .no
def uSl (K : PySem.W.Frag) : V → Option Int → Option Int → Hp → VK → Prop := fun x lo hi H Q => rSlS x lo hi H Q ∨ rSlA K x lo hi H Q ∨ rSlL K x lo hi H Q
theorem sl_u : SlR X (uSl X.K) := sl_str.or (sl_tupA.or sl_list)
theorem cutL_VRs {K : PySem.W.Frag} {ι : List Addr} {H : Hp} {ds : List D} {vs : List V} (q : VRs K ι H ds vs) (lo hi : Option Int) : VRs K ι H (cutL ds lo hi) (cutV vs lo hi) := by
  unfold cutL cutV
  rw [← q.length]
  exact (q.drop _).take _
theorem cutL_len {α : Type} (xs : List α) (lo hi : Option Int) : (cutL xs lo hi).length ≤ xs.length := by
  unfold cutL
  rw [List.length_take, List.length_drop]
  omega
theorem cutL_mem {α : Type} {xs : List α} {lo hi : Option Int} {c : α} (h : c ∈ cutL xs lo hi) : c ∈ xs := List.mem_of_mem_drop (List.mem_of_mem_take h)
theorem sim_slice : SimSl g (uSl g.K) slD := by
  intro H0 sp ι h H x lo hi vx W Q R qx w
  unfold slD at w
  split at w
  · obtain ⟨rfl, l1, c1⟩ := qx.strE
    refine .inl ⟨_, rfl, by rw [mk_len]; exact szl l1, ?_⟩
    have e : cutS (mk ‹List Nat›) lo hi = mk (cutL ‹List Nat› lo hi) := by
      unfold cutS cutL
      rw [mk_len]
    rw [e]
    exact w.here R _ (.strI (Nat.le_trans (cutL_len _ _ _) l1) fun c hc => c1 c (cutL_mem hc))
  · rename_i ds
    obtain ⟨a, vs, rfl, p, r⟩ := qx.tupX
    refine .inr (.inl ⟨a, vs, rfl, SqT.of p, fun hw => ?_, fun _ n hn => ?_⟩)
    · refine w.here R _ (.tupI p ?_)
      have e : cutL ds lo hi = ds := by
        unfold cutL
        rw [r.length, hw.1, hw.2, List.drop_zero]
        exact List.take_of_length_le (by rw [r.length]; omega)
      rw [e]; exact r
    · obtain ⟨x1, x2⟩ := newT R (cutL_VRs r lo hi) hn
      exact w.at x1 _ x2
  · rename_i ns
    unfold VR at qx
    obtain ⟨a, rfl, q⟩ := qx
    have q' : SqL g.K H a (ns.map V.int) := by
      rcases q with ⟨q, _⟩ | q | q
      · exact .inl q
      · rcases q with q | ⟨o, q⟩ <;> cases q
      · exact .inr q
    refine .inr (.inr ⟨a, _, rfl, q', fun n hn => ?_⟩)
    have e : cutV (ns.map V.int) lo hi = (cutL ns lo hi).map V.int := by
      unfold cutV cutL
      rw [List.length_map, List.map_take, List.map_drop]
    obtain ⟨x1, x2⟩ := newL (vs := cutV (ns.map V.int) lo hi) R (by rw [e]; exact VRs.of_ints _) hn
    exact w.at x1 _ x2
  · split at w
    · rename_i ds e1
      obtain ⟨a, vs, rfl, p, r⟩ := lof_ok R qx e1
      refine .inr (.inr ⟨a, vs, rfl, SqL.of p, fun n hn => ?_⟩)
      obtain ⟨x1, x2⟩ := newL R (cutL_VRs r lo hi) hn
      exact w.at x1 _ x2
    · exact w.elim
end
end PF
namespace PF
open PySem PySem.Spec PyProof.Rows L2
section
variable {X : Cx} {g : G}

/-! ### len, abs, int, min, max of two -/
def rLenU (K : PySem.W.Frag) : List V → Hp → VK → Prop := fun xs H Q => (∃ p ys, xs = [.ref p] ∧ (SqL K H p ys ∨ SqT K H p ys) ∧ Q (.int ys.length) H) ∨ ∃ z, xs = [.str z] ∧ z.length ≤ sizeLine ∧ Q (.int z.length) H
theorem call_lenU : CallR X (.builtin "len") (rLenU X.K) := call_len_seq.or call_len_str
def lenD : List D → Hs → R D
  | [.str s], h => .ok (.int s.length) h
  | [.tup ds], h => .ok (.int ds.length) h
  | [x], h => match lof h x with
    | some ds => .ok (.int ds.length) h
    | none => .no
  | _, _ => .no
theorem VRs.oneE {K : PySem.W.Frag} {ι : List Addr} {H : Hp} {d : D} {vs : List V} (q : VRs K ι H [d] vs) : ∃ v, vs = [v] ∧ VR K ι H d v := by
  obtain ⟨v, r, rfl, q1, q2⟩ := VRs.cons_iff.mp q
  rw [VRs.nil_iff.mp q2]
  exact ⟨v, rfl, q1⟩
theorem VRs.twoE {K : PySem.W.Frag} {ι : List Addr} {H : Hp} {d e : D} {vs : List V} (q : VRs K ι H [d, e] vs) : ∃ v w, vs = [v, w] ∧ VR K ι H d v ∧ VR K ι H e w := by
  obtain ⟨v, r, rfl, q1, q2⟩ := VRs.cons_iff.mp q
  obtain ⟨w, rfl, q3⟩ := q2.oneE
  exact ⟨v, w, rfl, q1, q3⟩
theorem sim_len : SimC g (rLenU g.K) lenD := by
  intro H0 sp ι h H xs vs W Q R q w
  unfold lenD at w
  split at w
  · obtain ⟨v, rfl, q1⟩ := q.oneE
    obtain ⟨rfl, l1, _⟩ := q1.strE
    exact .inr ⟨_, rfl, by rw [mk_len]; exact szl l1, by rw [mk_len]; exact w.here R _ rfl⟩
  · obtain ⟨v, rfl, q1⟩ := q.oneE
    obtain ⟨a, vs, rfl, p, r⟩ := q1.tupE
    exact .inl ⟨a, vs, rfl, .inr p, by rw [← r.length]; exact w.here R _ rfl⟩
  · split at w
    · rename_i ds e1
      obtain ⟨v, rfl, q1⟩ := q.oneE
      obtain ⟨a, vs, rfl, p, r⟩ := lof_ok R q1 e1
      exact .inl ⟨a, vs, rfl, .inl (SqL.of p), by rw [← r.length]; exact w.here R _ rfl⟩
    · exact w.elim
  · exact w.elim
def absD : List D → Hs → R D
  | [.int i], h => .ok (.int (if i < 0 then -i else i)) h
  | _, _ => .no
theorem sim_abs : SimC g (fun xs H Q => ∃ i, xs = [.int i] ∧ Q (.int (if i < 0 then -i else i)) H) absD := by
  intro H0 sp ι h H xs vs W Q R q w
  unfold absD at w
  split at w
  · obtain ⟨v, rfl, q1⟩ := q.oneE
    have e : v = .int _ := q1
    subst e
    exact ⟨_, rfl, w.here R _ rfl⟩
  · exact w.elim
def intD : List D → Hs → R D
  | [.int i], h => .ok (.int i) h
  | [.bl b], h => .ok (.int (if b then 1 else 0)) h
  | _, _ => .no
theorem sim_int1 : SimC g (fun xs H Q => (∃ i, xs = [.int i] ∧ Q (.int i) H) ∨ ∃ k, xs = [.bl k] ∧ Q (.int (if k then 1 else 0)) H) intD := by
  intro H0 sp ι h H xs vs W Q R q w
  unfold intD at w
  split at w
  · obtain ⟨v, rfl, q1⟩ := q.oneE
    have e : v = .int _ := q1
    subst e
    exact .inl ⟨_, rfl, w.here R _ rfl⟩
  · obtain ⟨v, rfl, q1⟩ := q.oneE
    have e : v = .bl _ := q1
    subst e
    exact .inr ⟨_, rfl, w.here R _ rfl⟩
  · exact w.elim
def max2D : List D → Hs → R D
  | [.int i, .int j], h => .ok (.int (if j > i then j else i)) h
  | _, _ => .no
theorem sim_max2 : SimC g (fun xs H Q => ∃ i j, xs = [.int i, .int j] ∧ Q (.int (if j > i then j else i)) H) max2D := by
  intro H0 sp ι h H xs vs W Q R q w
  unfold max2D at w
  split at w
  · obtain ⟨v, v', rfl, q1, q2⟩ := q.twoE
    have e : v = .int _ := q1
    have e' : v' = .int _ := q2
    subst e e'
    exact ⟨_, _, rfl, w.here R _ rfl⟩
  · exact w.elim
def min2D : List D → Hs → R D
  | [.int i, .int j], h => .ok (.int (if j < i then j else i)) h
  | _, _ => .no
theorem sim_min2 : SimC g (fun xs H Q => ∃ i j, xs = [.int i, .int j] ∧ Q (.int (if j < i then j else i)) H) min2D := by
  intro H0 sp ι h H xs vs W Q R q w
  unfold min2D at w
  split at w
  · obtain ⟨v, v', rfl, q1, q2⟩ := q.twoE
    have e : v = .int _ := q1
    have e' : v' = .int _ := q2
    subst e e'
    exact ⟨_, _, rfl, w.here R _ rfl⟩
  · exact w.elim

/-! ### list(x), tuple(x) of lists and tuples -/
def listD : List D → Hs → R D
  | [.tup ds], h => .ok (.ref h.length) (h ++ [.lst ds])
  | [x], h => match lof h x with
    | some ds => .ok (.ref h.length) (h ++ [.lst ds])
    | none => .no
  | _, _ => .no
def tupleD : List D → Hs → R D
  | [.tup ds], h => .ok (.tup ds) h
  | [x], h => match lof h x with
    | some ds => .ok (.tup ds) h
    | none => .no
  | _, _ => .no
theorem sim_list : SimC g (fun xs H Q => ∃ p ys, xs = [.ref p] ∧ (SqL g.K H p ys ∨ SqT g.K H p ys) ∧ ∀ l, H l = none → Q (.ref l) (upd H l (.lst ys))) listD := by
  intro H0 sp ι h H xs vs W Q R q w
  unfold listD at w
  split at w
  · obtain ⟨v, rfl, q1⟩ := q.oneE
    obtain ⟨a, vs, rfl, p, r⟩ := q1.tupE
    refine ⟨a, vs, rfl, .inr p, fun n hn => ?_⟩
    obtain ⟨x1, x2⟩ := newL R r hn
    exact w.at x1 _ x2
  · split at w
    · rename_i ds e1
      obtain ⟨v, rfl, q1⟩ := q.oneE
      obtain ⟨a, vs, rfl, p, r⟩ := lof_ok R q1 e1
      refine ⟨a, vs, rfl, .inl (SqL.of p), fun n hn => ?_⟩
      obtain ⟨x1, x2⟩ := newL R r hn
      exact w.at x1 _ x2
    · exact w.elim
  · exact w.elim
theorem sim_tuple : SimC g (fun xs H Q => ∃ p ys, xs = [.ref p] ∧ ((SqL g.K H p ys ∧ ∀ l, H l = none → Q (.ref l) (upd H l (.tup ys))) ∨ (SqT g.K H p ys ∧ Q (.ref p) H))) tupleD := by
  intro H0 sp ι h H xs vs W Q R q w
  unfold tupleD at w
  split at w
  · obtain ⟨v, rfl, q1⟩ := q.oneE
    obtain ⟨a, vs, rfl, p, r⟩ := q1.tupX
    exact ⟨a, vs, rfl, .inr ⟨SqT.of p, w.here R _ (.tupI p r)⟩⟩
  · split at w
    · rename_i ds e1
      obtain ⟨v, rfl, q1⟩ := q.oneE
      obtain ⟨a, vs, rfl, p, r⟩ := lof_ok R q1 e1
      refine ⟨a, vs, rfl, .inl ⟨SqL.of p, fun n hn => ?_⟩⟩
      obtain ⟨x1, x2⟩ := newT R r hn
      exact w.at x1 _ x2
    · exact w.elim
  · exact w.elim

/-! ### isinstance -/
def tyN (h : Hs) : D → Option String
  | .non => some "NoneType"
  | .bl _ => some "bool"
  | .int _ => some "int"
  | .str _ => some "str"
  | .tup _ => some "tuple"
  | .lst _ => some "list"
  | .ref n => match h[n]? with
    | some (.lst _) => some "list"
    | _ => none
  | .scr _ => none
  | .dct _ _ => none
theorem tyN_ok {H0 : Hp} {sp ι : List Addr} {h : Hs} {H : Hp} {x : D} {v : V} {t : String} (R : Rel g.K H0 sp ι h H) (q : VR g.K ι H x v) (e : tyN h x = some t) : TyX g.K H v (.type t) := by
  cases x with
  | non => cases e; have e : v = .non := q; subst e; exact .base .non
  | bl b => cases e; have e : v = .bl b := q; subst e; exact .base (.bl b)
  | int b => cases e; have e : v = .int b := q; subst e; exact .base (.int b)
  | str b => cases e; obtain ⟨rfl, _⟩ := q.strE; exact .base (.str _)
  | tup ds =>
    cases e
    obtain ⟨a, vs, rfl, p, _⟩ := q.tupE
    rcases p with (p | ⟨o, p⟩) | ⟨o, its, n, p, c, _⟩
    · exact .base (.tup p)
    · exact .fTuple p
    · exact .kTuple p c
  | lst ds =>
    cases e
    unfold VR at q
    obtain ⟨a, vs, rfl, p, _⟩ := q
    exact .base (.lst p)
  | ref n =>
    unfold tyN at e
    cases hn : h[n]? with
    | none => simp only [hn] at e; cases e
    | some o =>
      simp only [hn] at e
      cases o with
      | lst ds =>
        cases e
        unfold VR at q
        obtain ⟨a, rfl, e2⟩ := q
        obtain ⟨b, e3, vs, e4, _⟩ := R.ob n _ hn
        rw [e2] at e3; cases e3
        exact .base (.lst e4)
      | dct b => cases e
      | tb => cases e
      | dtt b => cases e
  | scr _ => cases e
  | dct _ _ => cases e
def subT (a b : String) : Bool := a == b || (a == "bool" && b == "int")
def kNames : List String := ["NoneType", "bool", "int", "str", "tuple", "list"]
theorem kit_sub : ∀ a ∈ kNames, ∀ b ∈ ["bool", "int", "str", "tuple", "list", "dict"], kitB a b = some (subT a b) := by decide +kernel
theorem tyN_mem {h : Hs} {x : D} {t : String} (e : tyN h x = some t) : t ∈ kNames := by
  cases x with
  | ref n =>
    unfold tyN at e
    cases hn : h[n]? with
    | none => simp only [hn] at e; cases e
    | some o => simp only [hn] at e; cases o <;> cases e; decide
  | scr _ => cases e
  | dct _ _ => cases e
  | _ => cases e; decide
def fIsi (fe : FE) (ts : List String) : FE := fun env h => (fe env h).bnd fun x h1 => match tyN h1 x with
  | some t => .ok (.bl (ts.any fun b => subT t b)) h1
  | none => .no
variable {W : Wx} {te : TE} {fe : FE}
theorem sim_isi1 {b : String} (hb : b ∈ ["bool", "int", "str", "tuple", "list", "dict"]) (he : SimE g W te fe) : SimE g W (tCB (rIsi g.K) (tCons te (tCons (tC (.ty b)) tNil))) (fIsi fe [b]) := by
  intro H0 sp ι h H env σ Q R E w
  refine he H0 sp ι h H env σ _ R E (WP.bnd w fun x h1 ι1 H1 R1 S1 w1 v1 q1 => ?_)
  cases e : tyN h1 x with
  | none => rw [e] at w1; exact w1.elim
  | some t =>
    rw [e] at w1
    refine ⟨v1, .ty b, .type t, .type b, subT t b, rfl, .ty b, tyN_ok R1 q1 e, kit_ty (kit_sub t (tyN_mem e) b hb), ?_⟩
    have := w1.here R1 _ rfl
    simpa using this
theorem sim_isi2 {a b : String} (ha : a ∈ ["bool", "int", "str", "tuple", "list", "dict"]) (hb : b ∈ ["bool", "int", "str", "tuple", "list", "dict"]) (he : SimE g W te fe) :
    SimE g W (tCB (rIsiT g.K) (tCons te (tCons (tTup (tCons (tC (.ty a)) (tCons (tC (.ty b)) tNil))) tNil))) (fIsi fe [a, b]) := by
  intro H0 sp ι h H env σ Q R E w
  refine he H0 sp ι h H env σ _ R E (WP.bnd w fun x h1 ι1 H1 R1 S1 w1 v1 q1 => ?_)
  refine ⟨by show 2 ≤ sizeLine; decide, fun p hp => ?_⟩
  cases e : tyN h1 x with
  | none => rw [e] at w1; exact w1.elim
  | some t =>
    rw [e] at w1
    have T := R1.tmp (o := .tup [.ty a, .ty b]) hp
    refine ⟨v1, p, [.ty a, .ty b], .type t, [.type a, .type b], subT t a || subT t b, rfl, upd_same, .cons (.ty a) (.cons (.ty b) .nil), tyN_ok T.1 (VR.mono T.2 _ _ q1) e, ?_, ?_⟩
    · have k1 := kit_ty (K := g.K) (kit_sub t (tyN_mem e) a ha)
      have k2 := kit_ty (K := g.K) (kit_sub t (tyN_mem e) b hb)
      refine kitAny_cons k1 (fun _ => kitAny_cons (r := subT t a || subT t b) k2 (fun z => ?_) (fun z => by rw [z]; simp)) (fun z => by rw [z]; simp)
      rename_i z1
      rw [z1, z]; exact kitAny_nil
    · have := w1.at T _ rfl
      simpa using this

/-! ### list(zip(x, y)) -/
def tLZ (K : PySem.W.Frag) (ta : TA) : TE := fun σ H Q => ta σ H fun vs H1 => ∃ a b xs ys, vs = [.ref a, .ref b] ∧ ((SqL K H1 a xs ∧ SqL K H1 b ys) ∨ (SqT K H1 a xs ∧ SqT K H1 b ys)) ∧
  ∀ (q : Addr) (ps : List Addr) (H2 : Hp), (∀ c o, H1 c = some o → H2 c = some o) → H1 q = none → H2 q = some (.lst (ps.map V.ref)) → ps.length = min xs.length ys.length →
    (∀ (i : Nat) (p : Addr), ps[i]? = some p → H2 p = some (.tup [xs.getD i .non, ys.getD i .non])) → Q (.ref q) H2
theorem getD_rel {xs : List V} {us : List Value} (r : Vals xs us) (i : Nat) : L2.RelV (xs.getD i .non) (us.toArray.getD i .none) := by
  by_cases h : i < xs.length
  · obtain ⟨u, h1, h2⟩ := r.get (i := i) (x := xs[i]) (by simp [h])
    have hu : i < us.length := (List.getElem?_eq_some_iff.mp h1).1
    have e1 : xs.getD i .non = xs[i] := by simp [List.getD, h]
    have e2 : us.toArray.getD i .none = u := by
      have := (List.getElem?_eq_some_iff.mp h1).2
      simp [Array.getD, hu, this]
    rw [e1, e2]; exact h2
  · have hl := r.length
    have e1 : xs.getD i .non = .non := by simp [List.getD, h]
    have e2 : us.toArray.getD i .none = .none := by
      have : ¬ i < us.length := by omega
      simp [Array.getD, this]
    rw [e1, e2]; rfl
theorem pe_listZip {e1 e2 : Expr} {ta : TA} {p p2 pos pos2 : Pos} (hg : Gl X "list") (hm : X.mg "list" = none) (hg2 : Gl X "zip") (hm2 : X.mg "zip" = none) (ha : PA X [e1, e2] ta) (hc : X.calm = true)
    (hs : starEach [e1, e2] X.env = (false, eval e1 X.env) :: starEach [e2] X.env := by rfl) (hpl : (backTo pos2 (starEach [e2] X.env)).any (·.1) = false := by rfl)
    (hs1 : starEach [.Call (.Name "zip" p2) [e1, e2] [] pos2] X.env = (false, eval (.Call (.Name "zip" p2) [e1, e2] [] pos2) X.env) :: starEach [] X.env := by rfl)
    (hpl1 : (backTo pos (starEach [] X.env)).any (·.1) = false := by rfl) :
    PE X (.Call (.Name "list" p) [.Call (.Name "zip" p2) [e1, e2] [] pos2] [] pos) (tLZ X.K ta) := by
  refine ⟨fun pins s σ H Q I h => ?_⟩
  refine wpAny_Call_Name_kw (ld_blt I hg hm PyProof.Rows.boot_list ?_)
  refine PyProof.Rows.callWith_type1 ?_ hs1 hpl1
  rw [hs1]
  show wpAny _ _ (spliced ((false, eval (.Call (.Name "zip" p2) [e1, e2] [] pos2) X.env) :: backTo pos (starEach [] X.env))) _ _ s
  refine Calls.spliced_cons ?_
  refine wpAny_Call_Name_kw (ld_blt I hg2 hm2 PyProof.Rows.boot_zip ?_)
  refine PyProof.Rows.callWith_type1 (thn (ha.run pos2 pins s σ H _ I h) fun us s1 ⟨vs, H1, I1, r1, q1⟩ => ?_) hs hpl
  obtain ⟨a, b, xs, ys, rfl, hq, fin⟩ := q1
  obtain ⟨u1, u2, rfl, ru1, ru2⟩ := Vals.two r1
  cases (show u1 = Value.ref a from ru1)
  cases (show u2 = Value.ref b from ru2)
  have hh := I.ok.hd hc
  -- the five objects of the zip
  have fresh5 : ∀ c, c ∈ [s1.heap.objs.size + 4, s1.heap.objs.size + 2, s1.heap.objs.size + 3, s1.heap.objs.size, s1.heap.objs.size + 1] → s1.heap.objs.size ≤ c := fun c hcm => by
    have e' : c = s1.heap.objs.size + 4 ∨ c = s1.heap.objs.size + 2 ∨ c = s1.heap.objs.size + 3 ∨ c = s1.heap.objs.size ∨ c = s1.heap.objs.size + 1 := by simpa using hcm
    rcases e' with z | z | z | z | z
    · rw [z]; exact Nat.le_add_right _ _
    · rw [z]; exact Nat.le_add_right _ _
    · rw [z]; exact Nat.le_add_right _ _
    · rw [z]; exact Nat.le_refl _
    · rw [z]; exact Nat.le_add_right _ _
  have notin : ∀ q l1 l2 : Addr, l1 < s1.heap.objs.size → l2 < s1.heap.objs.size → s1.heap.objs.size + 5 ≤ q → q ∉ [s1.heap.objs.size + 4, s1.heap.objs.size + 2, s1.heap.objs.size + 3, s1.heap.objs.size, s1.heap.objs.size + 1, l1, l2] := fun q l1 l2 h1 h2 hq hm => by
    have e' : q = s1.heap.objs.size + 4 ∨ q = s1.heap.objs.size + 2 ∨ q = s1.heap.objs.size + 3 ∨ q = s1.heap.objs.size ∨ q = s1.heap.objs.size + 1 ∨ q = l1 ∨ q = l2 := by simpa using hm
    have key : ∀ m : Nat, m < s1.heap.objs.size + 5 → q = m → False := fun m hm e => by
      have hq' : s1.heap.objs.size + 5 ≤ m := e ▸ hq
      omega
    rcases e' with z | z | z | z | z | z | z
    · exact key _ (by omega) z
    · exact key _ (by omega) z
    · exact key _ (by omega) z
    · exact key _ (by omega) z
    · exact key _ (by omega) z
    · exact key _ (Nat.lt_of_lt_of_le h1 (Nat.le_add_right _ _)) z
    · exact key _ (Nat.lt_of_lt_of_le h2 (Nat.le_add_right _ _)) z
  rcases hq with ⟨hqx, hqy⟩ | ⟨hqx, hqy⟩
  · obtain ⟨its, rv, p1, l1⟩ := I1.list hqx
    obtain ⟨its2, rv2, p2', l2⟩ := I1.list hqy
    refine call_zip_2 p1.isList p2'.isList fun h' hz hTI hTO h1 h2 hsz hk => Calls.spliced_nil ?_
    have I2 : Inv X pins σ H1 { s1 with heap := h' } := I1.kept (t' := s1.toks) hk
    have len : min xs.length ys.length = min its.toArray.size its2.toArray.size := by rw [List.size_toArray, List.size_toArray, rv.length, rv2.length]
    have up : ∀ (l : Addr) (zs : Array Value), s1.heap.IsList l zs → h'.IsList l zs := fun l zs ⟨o, e, r⟩ => ⟨o, hk _ _ e, r⟩
    refine ZL.list_zip (n := min xs.length ys.length) (vs := fun i => (xs.getD i .non, ys.getD i .non)) (us := fun i => (its.toArray.getD i .none, its2.toArray.getD i .none)) (Z := fun q => ZL.LZ its.toArray its2.toArray (s1.heap.objs.size + 4) (s1.heap.objs.size + 2) (s1.heap.objs.size + 3) s1.heap.objs.size (s1.heap.objs.size + 1) a b q) hh I2
      (fun q hq => by rw [len]; exact ZL.zw_list (PySem.W.ktu_apart s1.heap.objs.size a b p1.lt p2'.lt) (notin q a b p1.lt p2'.lt (by have : h'.objs.size ≤ q := hq; omega))) (fun q _ => ⟨.inl ⟨rfl, hz⟩, hTI, ⟨_, _, hTO⟩, h1, h2, up _ _ p1.isList, up _ _ p2'.isList⟩)
      (fun c hcm => I1.fpOk (fresh5 c hcm) (I1.hok.fresh (fresh5 c hcm))) (by show _ < h'.objs.size; omega) (fun i _ => ⟨getD_rel rv i, getD_rel rv2 i⟩) (by omega) fun q ps H2 s' I3 k1 k2 k3 k4 k5 => ?_
    exact ⟨.ref q, H2, I3, rfl, fin q ps H2 k1 k2 k3 k4 k5⟩
  · obtain ⟨its, rv, p1, l1⟩ := I1.tuple hqx
    obtain ⟨its2, rv2, p2', l2⟩ := I1.tuple hqy
    obtain ⟨o1, ho1, _⟩ := id p1
    obtain ⟨o2, ho2, _⟩ := id p2'
    have t1 : s1.heap.IsTuple a its.toArray := p1
    have t2 : s1.heap.IsTuple b its2.toArray := p2'
    refine RZ.call_zipT t1 t2 fun h' hz hTI hTO h1 h2 hsz hk => Calls.spliced_nil ?_
    have I2 : Inv X pins σ H1 { s1 with heap := h' } := I1.kept (t' := s1.toks) hk
    have len : min xs.length ys.length = min its.toArray.size its2.toArray.size := by rw [List.size_toArray, List.size_toArray, rv.length, rv2.length]
    have up : ∀ (l : Addr) (zs : Array Value), s1.heap.IsTuple l zs → h'.IsTuple l zs := fun l zs ⟨o, e, r⟩ => ⟨o, hk _ _ e, r⟩
    refine ZL.list_zip (n := min xs.length ys.length) (vs := fun i => (xs.getD i .non, ys.getD i .non)) (us := fun i => (its.toArray.getD i .none, its2.toArray.getD i .none)) (Z := fun q => ZL.TZ its.toArray its2.toArray (s1.heap.objs.size + 4) (s1.heap.objs.size + 2) (s1.heap.objs.size + 3) s1.heap.objs.size (s1.heap.objs.size + 1) a b q) hh I2
      (fun q hq => by rw [len]; exact ZL.zw_tup (PySem.W.ktu_apart s1.heap.objs.size a b (Heap.lt_size ho1) (Heap.lt_size ho2)) (notin q a b (Heap.lt_size ho1) (Heap.lt_size ho2) (by have : h'.objs.size ≤ q := hq; omega))) (fun q _ => ⟨.inl ⟨rfl, hz⟩, hTI, ⟨_, _, hTO⟩, h1, h2, up _ _ t1, up _ _ t2⟩)
      (fun c hcm => I1.fpOk (fresh5 c hcm) (I1.hok.fresh (fresh5 c hcm))) (by show _ < h'.objs.size; omega) (fun i _ => ⟨getD_rel rv i, getD_rel rv2 i⟩) (by omega) fun q ps H2 s' I3 k1 k2 k3 k4 k5 => ?_
    exact ⟨.ref q, H2, I3, rfl, fin q ps H2 k1 k2 k3 k4 k5⟩
end
end PF
namespace PF
open PySem PySem.Spec PyProof.Rows L2

/-! ### list(zip(x, y)), continued -/
def zipT (a b : List D) : List D := List.zipWith (fun x y => D.tup [x, y]) a b
def zipD : List D → Hs → R D
  | [.tup a, .tup b], h => .ok (.ref h.length) (h ++ [.lst (zipT a b)])
  | [x, y], h => match lof h x, lof h y with
    | some a, some b => .ok (.ref h.length) (h ++ [.lst (zipT a b)])
    | _, _ => .no
  | _, _ => .no
theorem VRs.of_get {K : PySem.W.Frag} {ι : List Addr} {H : Hp} : ∀ {ds : List D} {vs : List V}, ds.length = vs.length → (∀ (i : Nat) (d : D) (v : V), ds[i]? = some d → vs[i]? = some v → VR K ι H d v) → VRs K ι H ds vs
  | [], vs, hl, _ => List.eq_nil_of_length_eq_zero (by simpa using hl.symm)
  | d :: ds, [], hl, _ => by simp at hl
  | d :: ds, v :: vs, hl, h => .cons (h 0 d v rfl rfl) (VRs.of_get (by simpa using hl) fun i x y h1 h2 => h (i + 1) x y (by simpa using h1) (by simpa using h2))
section
variable {g : G} {W : Wx}
theorem zip_core {K : PySem.W.Frag} {H0 : Hp} {sp ι : List Addr} {h : Hs} {H H2 : Hp} {a b : List D} {xs ys : List V} {q : Addr} {ps : List Addr} (R : Rel K H0 sp ι h H) (ra : VRs K ι H a xs) (rb : VRs K ι H b ys)
    (k1 : ∀ c o, H c = some o → H2 c = some o) (k2 : H q = none) (k3 : H2 q = some (.lst (ps.map V.ref))) (k4 : ps.length = min xs.length ys.length) (k5 : ∀ (i : Nat) (p : Addr), ps[i]? = some p → H2 p = some (.tup [xs.getD i .non, ys.getD i .non])) :
    (Rel K H0 sp (ι ++ [q]) (h ++ [.lst (zipT a b)]) H2 ∧ Stp ι H (ι ++ [q]) H2) ∧ VR K (ι ++ [q]) H2 (.ref h.length) (.ref q) := by
  have x := R.adopt (o := .lst (zipT a b)) k1 k2 fun s => by
    refine ⟨_, k3, VRs.of_get ?_ fun i d v h1 h2 => ?_⟩
    · unfold zipT
      rw [List.length_zipWith, List.length_map, ra.length, rb.length, k4]
    · unfold zipT at h1
      rw [List.getElem?_zipWith] at h1
      cases e1 : a[i]? with
      | none => rw [e1] at h1; cases h1
      | some da =>
        cases e2 : b[i]? with
        | none => rw [e1, e2] at h1; cases h1
        | some db =>
          rw [e1, e2] at h1
          cases h1
          rw [List.getElem?_map] at h2
          cases e3 : ps[i]? with
          | none => rw [e3] at h2; cases h2
          | some p =>
            rw [e3] at h2
            cases h2
            obtain ⟨va, g1, q1⟩ := ra.get e1
            obtain ⟨vb, g2, q2⟩ := rb.get e2
            have t := k5 i p e3
            have n1 : xs.getD i .non = va := by simp [List.getD, g1]
            have n2 : ys.getD i .non = vb := by simp [List.getD, g2]
            rw [n1, n2] at t
            exact .tupI t (.cons (VR.mono s _ _ q1) (.one (VR.mono s _ _ q2)))
  refine ⟨x, ?_⟩
  unfold VR
  exact ⟨q, rfl, by rw [← R.len]; simp⟩
theorem sim_lz {ta : TA} {fa : FA} (ha : SimA g W ta fa) : SimE g W (tLZ g.K ta) (fCB zipD fa) := by
  intro H0 sp ι h H env σ Q R E w
  refine ha H0 sp ι h H env σ _ R E (WP.bnd w fun x h1 ι1 H1 R1 S1 w1 v1 q1 => ?_)
  unfold zipD at w1
  split at w1
  · obtain ⟨v, v', rfl, p1, p2⟩ := q1.twoE
    obtain ⟨a, xs, rfl, t1, r1⟩ := p1.tupE
    obtain ⟨b, ys, rfl, t2, r2⟩ := p2.tupE
    refine ⟨a, b, xs, ys, rfl, .inr ⟨t1, t2⟩, fun q ps H2 k1 k2 k3 k4 k5 => ?_⟩
    obtain ⟨x1, x2⟩ := zip_core R1 r1 r2 k1 k2 k3 k4 k5
    exact w1.at x1 _ x2
  · split at w1
    · rename_i a' b' e1 e2
      obtain ⟨v, v', rfl, p1, p2⟩ := q1.twoE
      obtain ⟨a, xs, rfl, t1, r1⟩ := lof_ok R1 p1 e1
      obtain ⟨b, ys, rfl, t2, r2⟩ := lof_ok R1 p2 e2
      refine ⟨a, b, xs, ys, rfl, .inl ⟨SqL.of t1, SqL.of t2⟩, fun q ps H2 k1 k2 k3 k4 k5 => ?_⟩
      obtain ⟨x1, x2⟩ := zip_core R1 r1 r2 k1 k2 k3 k4 k5
      exact w1.at x1 _ x2
    · exact w1.elim
  · exact w1.elim

/-! ### methods of lists and texts -/
def tyD (T : String) (h : Hs) (x : D) : Bool := match x with
  | .str _ => T == "str"
  | x => T == "list" && (lof h x).isSome
def SimM (g : G) (r : V → List V → Hp → VK → Prop) (f : D → List D → Hs → R D) : Prop := ∀ (H0 : Hp) (sp ι : List Addr) (h : Hs) (H : Hp) (x : D) (xs : List D) (vx : V) (vs : List V) (W : Wx) (Q : VK), Rel g.K H0 sp ι h H → VR g.K ι H x vx → VRs g.K ι H xs vs →
  WP g H0 sp W ι H (f x xs h) (fun d _ ι' H' => ∀ v, VR g.K ι' H' d v → Q v H') → r vx vs H Q
def fBM (T : String) (f : D → List D → Hs → R D) (fo : FE) (fa : FA) : FE := fun env h => (fo env h).bnd fun x h1 => if tyD T h1 x = true then (fa env h1).bnd fun xs h2 => f x xs h2 else .no
theorem tyD_ok {H0 : Hp} {sp ι : List Addr} {h : Hs} {H : Hp} {x : D} {v : V} {T : String} (R : Rel g.K H0 sp ι h H) (q : VR g.K ι H x v) (e : tyD T h x = true) : tyV g.K T v H := by
  unfold tyD at e
  split at e
  · obtain ⟨rfl, _⟩ := q.strE
    exact (by simpa using e : T = "str")
  · rw [Bool.and_eq_true] at e
    obtain ⟨ds, h2⟩ := Option.isSome_iff_exists.mp e.2
    obtain ⟨a, vs, rfl, p, _⟩ := lof_ok R q h2
    exact .inl ⟨by simpa using e.1, vs, SqL.of p⟩
theorem sim_bm {T : String} {r : V → List V → Hp → VK → Prop} {f : D → List D → Hs → R D} {to : TE} {fo : FE} {ta : TA} {fa : FA} (hr : SimM g r f) (ho : SimE g W to fo) (ha : SimA g W ta fa) : SimE g W (tBM g.K T r to ta) (fBM T f fo fa) := by
  intro H0 sp ι h H env σ Q R E w
  refine ho H0 sp ι h H env σ _ R E (WP.bnd w fun x h1 ι1 H1 R1 S1 w1 v1 q1 => ?_)
  obtain ⟨hc, w1⟩ := ifN w1
  refine ⟨tyD_ok R1 q1 hc, ?_⟩
  refine ha H0 sp ι1 h1 H1 env σ _ R1 (E.mono S1) (WP.bnd w1 fun y h2 ι2 H2 R2 S2 w2 v2 q2 => ?_)
  exact hr H0 sp ι2 h2 H2 x y v1 v2 W Q R2 (VR.mono S2 _ _ q1) q2 w2
theorem sim_bm0 {T : String} {r : V → List V → Hp → VK → Prop} {f : D → List D → Hs → R D} {to : TE} {fo : FE} (hr : SimM g r f) (ho : SimE g W to fo) : SimE g W (tBM0 g.K T r to) (fBM T f fo fNil) := by
  intro H0 sp ι h H env σ Q R E w
  refine ho H0 sp ι h H env σ _ R E (WP.bnd w fun x h1 ι1 H1 R1 S1 w1 v1 q1 => ?_)
  obtain ⟨hc, w1⟩ := ifN w1
  refine ⟨tyD_ok R1 q1 hc, ?_⟩
  exact hr H0 sp ι1 h1 H1 x [] v1 [] W Q R1 q1 rfl w1
/-- the items of a local list that may be changed -/
def own (h : Hs) : D → Option (Nat × List D)
  | .ref n => match h[n]? with
    | some (.lst ds) => some (n, ds)
    | _ => none
  | _ => none
theorem own_ok {K : PySem.W.Frag} {H0 : Hp} {sp ι : List Addr} {h : Hs} {H : Hp} (R : Rel K H0 sp ι h H) {d : D} {v : V} {n : Nat} {ds : List D} (q : VR K ι H d v) (e : own h d = some (n, ds)) : ∃ a vs, v = .ref a ∧ ι[n]? = some a ∧ H a = some (.lst vs) ∧ VRs K ι H ds vs := by
  cases d with
  | ref m =>
    unfold own at e
    cases hn : h[m]? with
    | none => simp only [hn] at e; cases e
    | some o =>
      simp only [hn] at e
      cases o with
      | lst xs =>
        cases e
        unfold VR at q
        obtain ⟨a, e1, e2⟩ := q
        obtain ⟨b, h1, vs, h2, h3⟩ := R.ob _ _ hn
        rw [e2] at h1; cases h1
        exact ⟨a, vs, e1, e2, h2, h3⟩
      | dct b => cases e
      | tb => cases e
      | dtt b => cases e
  | _ => cases e
theorem putL {K : PySem.W.Frag} {H0 : Hp} {sp ι : List Addr} {h : Hs} {H : Hp} (R : Rel K H0 sp ι h H) {n : Nat} {a : Addr} {ds : List D} {vs : List V} (hn : ι[n]? = some a) (q : VRs K ι H ds vs) :
    Rel K H0 sp ι (h.set n (.lst ds)) (upd H a (.lst vs)) ∧ Stp ι H ι (upd H a (.lst vs)) := R.put hn fun s => ⟨vs, upd_same, VRs.mono s _ _ q⟩
def appendD (x : D) (xs : List D) (h : Hs) : R D := match own h x, xs with
  | some (n, ds), [d] => if ds.length < 16777216 then .ok .non (h.set n (.lst (ds ++ [d]))) else .no
  | _, _ => .no
theorem sim_append : SimM g rAppend appendD := by
  intro H0 sp ι h H x xs vx vs W Q R qx qs w
  unfold appendD at w
  split at w
  · rename_i n ds d e
    obtain ⟨hl, w⟩ := ifN w
    obtain ⟨a, us, rfl, hn, p, r⟩ := own_ok R qx e
    obtain ⟨v, rfl, q1⟩ := qs.oneE
    exact ⟨a, us, v, rfl, rfl, p, by rw [← r.length, sizeLine_eq]; exact hl, w.at (putL R hn (r.app (.one q1))) _ rfl⟩
  · exact w.elim
def extendD (x : D) (xs : List D) (h : Hs) : R D := match own h x, xs with
  | some (n, ds), [y] => match lof h y with
    | some es => if ds.length + es.length ≤ 16777216 then .ok .non (h.set n (.lst (ds ++ es))) else .no
    | none => .no
  | _, _ => .no
theorem sim_extend : SimM g rExtend extendD := by
  intro H0 sp ι h H x xs vx vs W Q R qx qs w
  unfold extendD at w
  split at w
  · rename_i n ds y e
    split at w
    · rename_i es e2
      obtain ⟨hl, w⟩ := ifN w
      obtain ⟨a, us, rfl, hn, p, r⟩ := own_ok R qx e
      obtain ⟨v, rfl, q1⟩ := qs.oneE
      obtain ⟨b, ws, rfl, p2, r2⟩ := lof_ok R q1 e2
      exact ⟨a, b, us, ws, rfl, rfl, p, p2, by rw [← r.length, ← r2.length]; exact szl hl, w.at (putL R hn (r.app r2)) _ rfl⟩
    · exact w.elim
  · exact w.elim
def popD (x : D) (xs : List D) (h : Hs) : R D := match own h x, xs with
  | some (n, ds), [] => match ds[ds.length - 1]? with
    | some d => .ok d (h.set n (.lst ds.dropLast))
    | none => .no
  | _, _ => .no
theorem VRs.dropLast {K : PySem.W.Frag} {ι : List Addr} {H : Hp} {ds : List D} {vs : List V} (q : VRs K ι H ds vs) : VRs K ι H ds.dropLast vs.dropLast := by
  rw [List.dropLast_eq_take, List.dropLast_eq_take, q.length]
  exact q.take _
theorem sim_pop : SimM g rPop popD := by
  intro H0 sp ι h H x xs vx vs W Q R qx qs w
  unfold popD at w
  split at w
  · rename_i n ds e
    split at w
    · rename_i d e2
      obtain ⟨a, us, rfl, hn, p, r⟩ := own_ok R qx e
      obtain ⟨v, g1, q1⟩ := r.get e2
      have T := putL R hn r.dropLast
      exact ⟨a, us, v, rfl, VRs.nil_iff.mp qs, p, by rw [← r.length]; exact g1, w.at T _ (VR.mono T.2 _ _ q1)⟩
    · exact w.elim
  · exact w.elim
def popAtD (x : D) (xs : List D) (h : Hs) : R D := match own h x, xs with
  | some (n, ds), [.int i] => if -9223372036854775808 ≤ i ∧ i < 9223372036854775808 then match seqIndex? i ds.length with
    | some k => match ds[k]? with
      | some d => .ok d (h.set n (.lst (ds.eraseIdx k)))
      | none => .no
    | none => .no else .no
  | _, _ => .no
theorem sim_popAt : SimM g rPopAt popAtD := by
  intro H0 sp ι h H x xs vx vs W Q R qx qs w
  unfold popAtD at w
  split at w
  · rename_i n ds i e
    obtain ⟨hi, w⟩ := ifN w
    split at w
    · rename_i k e1
      split at w
      · rename_i d e2
        obtain ⟨a, us, rfl, hn, p, r⟩ := own_ok R qx e
        obtain ⟨u, rfl, qi⟩ := qs.oneE
        have ei : u = .int i := qi
        subst ei
        obtain ⟨v, g1, q1⟩ := r.get e2
        have T := putL R hn (r.erase k)
        exact ⟨a, us, i, k, v, rfl, rfl, p, by omega, by omega, by rw [← r.length]; exact e1, g1, w.at T _ (VR.mono T.2 _ _ q1)⟩
      · exact w.elim
    · exact w.elim
  · exact w.elim
/-- sep.join(texts) -/
def txts : List D → Option (List (List Nat))
  | [] => some []
  | .str s :: r => (txts r).map (s :: ·)
  | _ => none
@[simp] theorem txts_map (l : List (List Nat)) : txts (l.map D.str) = some l := by
  induction l with
  | nil => rfl
  | cons a r ih => simp [txts, ih]
def joinL (sep : List Nat) : List (List Nat) → List Nat
  | [] => []
  | x :: r => x ++ (r.map (sep ++ ·)).flatten
theorem glue_fold (sep : List Nat) : ∀ (r : List (List Nat)) (acc : List Nat), (r.map mk).foldl (fun a p => a ++ (mk sep).cps ++ p.cps) acc.toArray = (acc ++ (r.map (sep ++ ·)).flatten).toArray
  | [], acc => by simp
  | x :: r, acc => by
    rw [List.map_cons, List.foldl_cons, List.map_cons, List.flatten_cons]
    have e : acc.toArray ++ (mk sep).cps ++ (mk x).cps = (acc ++ sep ++ x).toArray := by simp [mk]
    rw [e, glue_fold sep r]
    simp
theorem glue_is (sep : List Nat) (l : List (List Nat)) : Txt.join (mk sep) (l.map mk) = mk (joinL sep l) := by
  unfold Txt.join Builtin.Str.glued joinL
  cases l with
  | nil => rfl
  | cons x r =>
    have e := glue_fold sep r x
    simp only [List.map_cons, List.drop_succ_cons, List.drop_zero, List.headD_cons]
    exact congrArg (fun a => (⟨a⟩ : Str)) e
theorem joinL_len (sep : List Nat) : ∀ l : List (List Nat), (joinL sep l).length ≤ (l.map List.length).sum + l.length * sep.length := by
  have key : ∀ r : List (List Nat), ((r.map (sep ++ ·)).flatten).length = (r.map List.length).sum + r.length * sep.length := by
    intro r
    induction r with
    | nil => simp
    | cons x r ih =>
      rw [List.map_cons, List.flatten_cons, List.length_append, List.length_append, ih, List.map_cons, List.sum_cons, List.length_cons, Nat.succ_mul]
      omega
  intro l
  cases l with
  | nil => simp [joinL]
  | cons x r =>
    unfold joinL
    rw [List.length_append, key r, List.map_cons, List.sum_cons, List.length_cons, Nat.succ_mul]
    omega
def seqOf (h : Hs) : D → Option (List D)
  | .tup ds => some ds
  | x => lof h x
theorem seq_ok {K : PySem.W.Frag} {H0 : Hp} {sp ι : List Addr} {h : Hs} {H : Hp} (R : Rel K H0 sp ι h H) {d : D} {v : V} {ds : List D} (q : VR K ι H d v) (e : seqOf h d = some ds) : ∃ a vs, v = .ref a ∧ (SqL K H a vs ∨ SqT K H a vs) ∧ VRs K ι H ds vs := by
  unfold seqOf at e
  split at e
  · cases e
    obtain ⟨a, vs, rfl, p, r⟩ := q.tupE
    exact ⟨a, vs, rfl, .inr p, r⟩
  · obtain ⟨a, vs, rfl, p, r⟩ := lof_ok R q e
    exact ⟨a, vs, rfl, .inl (SqL.of p), r⟩
def lenSum (l : List (List Nat)) : Nat := (l.map List.length).sum
def joinD (x : D) (xs : List D) (h : Hs) : R D := match x, xs with
  | .str sep, [y] => match seqOf h y with
    | some ds => match txts ds with
      | some l => if lenSum l + l.length * sep.length ≤ 16777216 then .ok (.str (joinL sep l)) h else .no
      | none => .no
    | none => .no
  | _, _ => .no
theorem txts_ok {K : PySem.W.Frag} {ι : List Addr} {H : Hp} : ∀ {ds : List D} {vs : List V} {l : List (List Nat)}, VRs K ι H ds vs → txts ds = some l → vs = (l.map mk).map V.str ∧ ∀ s ∈ l, ∀ c ∈ s, c < 1114112
  | [], vs, l, q, e => by
    cases e
    exact ⟨VRs.nil_iff.mp q, fun s hs => by cases hs⟩
  | d :: ds, vs, l, q, e => by
    obtain ⟨v, r, rfl, q1, q2⟩ := VRs.cons_iff.mp q
    cases d with
    | str s =>
      unfold txts at e
      cases h : txts ds with
      | none => rw [h] at e; cases e
      | some l' =>
        rw [h] at e; cases e
        obtain ⟨rfl, hc⟩ := txts_ok q2 h
        obtain ⟨rfl, _, c1⟩ := q1.strE
        refine ⟨rfl, fun t ht => ?_⟩
        rcases List.mem_cons.mp ht with rfl | ht
        · exact c1
        · exact hc t ht
    | _ => cases e
theorem joinL_mem {sep : List Nat} {l : List (List Nat)} {c : Nat} (h : c ∈ joinL sep l) : c ∈ sep ∨ ∃ s ∈ l, c ∈ s := by
  cases l with
  | nil => cases h
  | cons x r =>
    unfold joinL at h
    rcases List.mem_append.mp h with h | h
    · exact .inr ⟨x, by simp, h⟩
    · obtain ⟨t, h1, h2⟩ := List.mem_flatten.mp h
      obtain ⟨s, h3, rfl⟩ := List.mem_map.mp h1
      rcases List.mem_append.mp h2 with h2 | h2
      · exact .inl h2
      · exact .inr ⟨s, by simp [h3], h2⟩
def rJoin (K : PySem.W.Frag) : V → List V → Hp → VK → Prop := fun x xs H Q => ∃ a p, ∃ ys : List Str, x = .str a ∧ xs = [.ref p] ∧ (SqL K H p (ys.map V.str) ∨ SqT K H p (ys.map V.str)) ∧
      (ys.map (·.length)).sum + ys.length * a.length ≤ 16777216 ∧ Q (.str (Txt.join a ys)) H
theorem sim_join : SimM g (rJoin g.K) joinD := by
  intro H0 sp ι h H x xs vx vs W Q R qx qs w
  unfold joinD at w
  split at w
  · rename_i sep y
    split at w
    · rename_i ds e1
      split at w
      · rename_i l e2
        obtain ⟨hl, w⟩ := ifN w
        obtain ⟨rfl, _, cs⟩ := qx.strE
        obtain ⟨v, rfl, q1⟩ := qs.oneE
        obtain ⟨a, us, rfl, p, r⟩ := seq_ok R q1 e1
        obtain ⟨rfl, hc⟩ := txts_ok r e2
        have e3 : ((l.map mk).map (·.length)) = l.map List.length := by
          rw [List.map_map]
          exact List.map_congr_left fun s _ => mk_len s
        refine ⟨_, a, l.map mk, rfl, rfl, p, ?_, ?_⟩
        · rw [e3, List.length_map, mk_len]; exact hl
        · rw [glue_is]
          refine w.here R _ (.strI (Nat.le_trans (joinL_len sep l) hl) fun c h => ?_)
          rcases joinL_mem h with h | ⟨s, hs, h⟩
          · exact cs c h
          · exact hc s hs c h
      · exact w.elim
    · exact w.elim
  · exact w.elim
def fM1 (f : D → List D → Hs → R D) (fo fe : FE) : FE := fun env h => (fo env h).bnd fun x h1 => match x with
  | .str s => (fe env h1).bnd fun y h2 => f (.str s) [y] h2
  | _ => .no
theorem sim_m1 {r : V → List V → Hp → VK → Prop} {f : D → List D → Hs → R D} {to te : TE} {fo fe : FE} (hr : SimM g r f) (ho : SimE g W to fo) (he : SimE g W te fe) : SimE g W (tM1 r to te) (fM1 f fo fe) := by
  intro H0 sp ι h H env σ Q R E w
  refine ho H0 sp ι h H env σ _ R E (WP.bnd w fun x h1 ι1 H1 R1 S1 w1 v1 q1 => ?_)
  cases x with
  | str s =>
    refine ⟨⟨_, q1.strE.1⟩, ?_⟩
    refine he H0 sp ι1 h1 H1 env σ _ R1 (E.mono S1) (WP.bnd w1 fun y h2 ι2 H2 R2 S2 w2 v2 q2 => ?_)
    exact hr H0 sp ι2 h2 H2 (.str s) [y] v1 [v2] W Q R2 (VR.mono S2 _ _ q1) (.one q2) w2
  | _ => exact w1.elim
end
end PF
namespace PF
open PySem PySem.Spec PyProof.Rows L2

/-! ### what a temporary leaves is dropped -/
mutual
def bel (n : Nat) : D → Bool
  | .tup xs => bels n xs
  | .lst xs => bels n xs
  | .dct ks vs => bels n ks && bels n vs
  | .ref m => decide (m < n)
  | _ => true
def bels (n : Nat) : List D → Bool
  | [] => true
  | d :: ds => bel n d && bels n ds
end
theorem bels_cons (n : Nat) (d : D) (ds : List D) : bels n (d :: ds) = (bel n d && bels n ds) := by rw [bels]
mutual
theorem bel_nor (n : Nat) : ∀ d : D, d.nor = true → bel n d = true
  | .tup xs, h => by unfold bel; exact bels_nors n xs (by simpa using h)
  | .lst xs, h => by unfold bel; exact bels_nors n xs (by simpa using h)
  | .ref _, h => by cases h
  | .dct _ _, h => by cases h
  | .non, _ => rfl
  | .bl _, _ => rfl
  | .int _, _ => rfl
  | .str _, _ => rfl
  | .scr _, _ => rfl
theorem bels_nors (n : Nat) : ∀ ds : List D, nors ds = true → bels n ds = true
  | [], _ => rfl
  | d :: ds, h => by
    rw [nors_cons, Bool.and_eq_true] at h
    rw [bels_cons, bel_nor n d h.1, bels_nors n ds h.2]; rfl
end
section
variable {K : PySem.W.Frag} {ι : List Addr} {H : Hp}
mutual
theorem VR.bel : ∀ (d : D) (v : V), VR K ι H d v → bel ι.length d = true
  | .tup xs, v, h => by
    obtain ⟨a, vs, _, _, r⟩ := h.tupE
    unfold PF.bel
    exact VRs.bel xs vs r
  | .lst xs, v, h => by
    unfold VR at h
    obtain ⟨a, vs, _, _, _, r⟩ := h
    unfold PF.bel
    exact VRs.bel xs vs r
  | .ref m, v, h => by
    unfold VR at h
    obtain ⟨a, _, e⟩ := h
    unfold PF.bel
    exact decide_eq_true (List.getElem?_eq_some_iff.mp e).1
  | .non, _, _ => rfl
  | .bl _, _, _ => rfl
  | .int _, _, _ => rfl
  | .str _, _, _ => rfl
  | .scr _, _, _ => rfl
  | .dct ks ws, v, h => by
    unfold VR at h
    obtain ⟨a, us, _, _, _, _, k2, k3⟩ := h
    unfold PF.bel
    rw [VRs.bel ks _ k2, VRs.bel ws _ k3]; rfl
theorem VRs.bel : ∀ (ds : List D) (vs : List V), VRs K ι H ds vs → bels ι.length ds = true
  | [], _, _ => rfl
  | d :: ds, vs, h => by
    obtain ⟨v, r, _, h1, h2⟩ := VRs.cons_iff.mp h
    rw [bels_cons, VR.bel d v h1, VRs.bel ds r h2]; rfl
end
variable {ι' : List Addr}
mutual
/-- fewer numbers are enough -/
theorem VR.less {n : Nat} (hs : ∀ a, a ∈ ι' → a ∈ ι) (hn : ∀ m : Nat, m < n → ι'[m]? = ι[m]?) : ∀ (d : D) (v : V), PF.bel n d = true → VR K ι H d v → VR K ι' H d v
  | .tup xs, v, b, h => by
    obtain ⟨a, vs, e, p, r⟩ := h.tupX
    unfold PF.bel at b
    unfold VR
    exact ⟨a, vs, e, p, VRs.less hs hn xs vs b r⟩
  | .lst xs, v, b, h => by
    unfold VR at h ⊢
    unfold PF.bel at b
    obtain ⟨a, vs, e, p, m, r⟩ := h
    exact ⟨a, vs, e, p, fun z => m (hs a z), VRs.less hs hn xs vs b r⟩
  | .ref m, v, b, h => by
    unfold VR at h ⊢
    unfold PF.bel at b
    obtain ⟨a, e, p⟩ := h
    exact ⟨a, e, (hn m (of_decide_eq_true b)).trans p⟩
  | .non, _, _, h => h
  | .bl _, _, _, h => h
  | .int _, _, _, h => h
  | .str _, _, _, h => h
  | .scr _, v, _, h => by
    unfold VR at h ⊢
    obtain ⟨a, e, q⟩ := h
    rcases q with ⟨q, m⟩ | q
    · exact ⟨a, e, .inl ⟨q, fun z => m (hs a z)⟩⟩
    · exact ⟨a, e, .inr q⟩
  | .dct ks ws, v, b, h => by
    unfold VR at h ⊢
    unfold PF.bel at b
    rw [Bool.and_eq_true] at b
    obtain ⟨a, us, e, p, m, k1, k2, k3⟩ := h
    exact ⟨a, us, e, p, fun z => m (hs a z), k1, VRs.less hs hn ks _ b.1 k2, VRs.less hs hn ws _ b.2 k3⟩
theorem VRs.less {n : Nat} (hs : ∀ a, a ∈ ι' → a ∈ ι) (hn : ∀ m : Nat, m < n → ι'[m]? = ι[m]?) : ∀ (ds : List D) (vs : List V), bels n ds = true → VRs K ι H ds vs → VRs K ι' H ds vs
  | [], _, _, h => h
  | d :: ds, vs, b, h => by
    obtain ⟨v, r, rfl, h1, h2⟩ := VRs.cons_iff.mp h
    rw [bels_cons, Bool.and_eq_true] at b
    exact .cons (VR.less hs hn d v b.1 h1) (VRs.less hs hn ds r b.2 h2)
end
def belO (n : Nat) : Ob → Bool
  | .lst ds => bels n ds
  | .dct kvs => bels n (kvs.map Prod.fst) && bels n (kvs.map Prod.snd)
  | .tb => true
  | .dtt kvs => bels n (kvs.map Prod.snd)
theorem ObR.less {n : Nat} {o : Ob} {a : Addr} (hs : ∀ a, a ∈ ι' → a ∈ ι) (hn : ∀ m : Nat, m < n → ι'[m]? = ι[m]?) (b : belO n o = true) (h : ObR K ι H o a) : ObR K ι' H o a := by
  cases o with
  | lst ds =>
    obtain ⟨vs, e, r⟩ := h
    exact ⟨vs, e, VRs.less hs hn ds vs b r⟩
  | dct kvs =>
    obtain ⟨us, e, r1, r2, r3⟩ := h
    have b' : (bels n (kvs.map Prod.fst) && bels n (kvs.map Prod.snd)) = true := b
    rw [Bool.and_eq_true] at b'
    exact ⟨us, e, r1, VRs.less hs hn _ _ b'.1 r2, VRs.less hs hn _ _ b'.2 r3⟩
  | tb => exact h
  | dtt kvs =>
    obtain ⟨us, e, r1, r2⟩ := h
    exact ⟨us, e, r1, VRs.less hs hn _ _ b r2⟩
variable {H0 : Hp} {sp : List Addr} {h h' : Hs} {H' : Hp}
theorem ObR.bel {o : Ob} {a : Addr} (q : ObR K ι H o a) : belO ι.length o = true := by
  cases o with
  | lst ds => obtain ⟨vs, e, r⟩ := q; exact VRs.bel ds vs r
  | dct kvs =>
    obtain ⟨us, e, r1, r2, r3⟩ := q
    show (bels _ _ && bels _ _) = true
    rw [VRs.bel _ _ r2, VRs.bel _ _ r3]; rfl
  | tb => rfl
  | dtt kvs =>
    obtain ⟨us, e, r1, r2⟩ := q
    exact VRs.bel _ _ r2
/-- the objects behind the n-th are forgotten -/
theorem Rel.cut (r : Rel K H0 sp ι' h' H') {n : Nat} (hsp : ∀ a ∈ sp, a ∈ ι'.take n) (hb : ∀ o ∈ h'.take n, belO n o = true) : Rel K H0 sp (ι'.take n) (h'.take n) H' := by
  have hs : ∀ a, a ∈ ι'.take n → a ∈ ι' := fun a m => List.mem_of_mem_take m
  have hn : ∀ m : Nat, m < n → (ι'.take n)[m]? = ι'[m]? := fun m hm => by rw [List.getElem?_take]; simp [hm]
  refine ⟨by simp [r.len], r.nd.sublist (List.take_sublist n ι'), fun m o q => ?_, fun a o e hna => ?_, fun a m => r.new a (hs a m), hsp⟩
  · have hm : m < n := by
      have := (List.getElem?_eq_some_iff.mp q).1
      rw [List.length_take] at this; omega
    have q' : h'[m]? = some o := by
      rw [List.getElem?_take] at q; simpa [hm] using q
    obtain ⟨a, h1, h2⟩ := r.ob m o q'
    exact ⟨a, by rw [hn m hm]; exact h1, h2.less hs hn (hb o (List.mem_of_getElem? q))⟩
  · by_cases hm : a ∈ ι'
    · rcases r.new a hm with z | z
      · rw [e] at z; cases z
      · exact absurd (hsp a z) hna
    · exact r.base a o e hm
theorem Stp.len (s : Stp ι H ι' H') : ι.length ≤ ι'.length := by
  by_cases c : ι.length = 0
  · omega
  · have h1 : ι.length - 1 < ι.length := by omega
    have := s.pre (ι.length - 1) ι[ι.length - 1] (by simp [h1])
    have := (List.getElem?_eq_some_iff.mp this).1
    omega
theorem Stp.take_eq (s : Stp ι H ι' H') : ι'.take ι.length = ι := by
  refine List.ext_getElem? fun n => ?_
  rw [List.getElem?_take]
  by_cases c : n < ι.length
  · rw [if_pos c, s.pre n ι[n] (by simp [c])]; simp [c]
  · rw [if_neg c]; simp at c; simp [c]
theorem Stp.back (s : Stp ι H ι' H') : Stp ι H ι H' := ⟨fun _ _ e => e, fun a o e n => ⟨(s.keep a o e n).1, n⟩, s.tup⟩
end
theorem getElem?_inj' {α : Type} {l : List α} (nd : l.Nodup) {i j : Nat} {a : α} (h1 : l[i]? = some a) (h2 : l[j]? = some a) : i = j := by
  obtain ⟨l1, e1⟩ := List.getElem?_eq_some_iff.mp h1
  obtain ⟨l2, e2⟩ := List.getElem?_eq_some_iff.mp h2
  exact (List.getElem_inj nd).mp (e1.trans e2.symm)
theorem Rel.backTo {K : PySem.W.Frag} {H0 : Hp} {sp ι ι' : List Addr} {h h' : Hs} {H H' : Hp} (R : Rel K H0 sp ι h H) (R' : Rel K H0 sp ι' h' H') (S' : Stp ι H ι' H') (c : (h'.take h.length).all (belO h.length) = true) : Rel K H0 sp ι (h'.take h.length) H' ∧ Stp ι H ι H' := by
  have e : ι'.take h.length = ι := by rw [← R.len]; exact S'.take_eq
  have x := R'.cut (n := h.length) (fun a hs => by rw [e]; exact R.spin a hs) (fun o m => List.all_eq_true.mp c o m)
  rw [e] at x
  exact ⟨x, S'.back⟩
/-- a temporary: of a plain value nothing stays, of a new object itself alone -/
def tmpR (h : Hs) (r : R D) : R D := match r with
  | .ok a h' => if (h'.take h.length).all (belO h.length) = true then (if a.pur = true then .ok a (h'.take h.length) else match a with
    | .ref m => if m < h.length then .ok a (h'.take h.length) else match h'[m]? with
      | some o => if belO h.length o = true then .ok (.ref h.length) (h'.take h.length ++ [o]) else .ok a h'
      | none => .ok a h'
    | _ => .ok a h') else .ok a h'
  | r => r
def tmpB (h : Hs) (r : R Bool) : R Bool := match r with
  | .ok a h' => if (h'.take h.length).all (belO h.length) = true then .ok a (h'.take h.length) else .ok a h'
  | r => r
section
variable {g : G} {H0 : Hp} {sp ι : List Addr} {h : Hs} {H : Hp} {W : Wx}
theorem tmpB_ok {r : R Bool} {P : Bool → Hp → Prop} (R : Rel g.K H0 sp ι h H) (w : WP g H0 sp W ι H (tmpB h r) fun b _ _ H' => P b H') : WP g H0 sp W ι H r fun b _ _ H' => P b H' := by
  cases r with
  | ok a h' =>
    by_cases c : (h'.take h.length).all (belO h.length) = true
    · simp only [tmpB, if_pos c] at w
      intro ι' H' R' S'
      exact w.at (R.backTo R' S' c)
    · simp only [tmpB, if_neg c] at w; exact w
  | er e v h1 => exact w
  | no => exact w
theorem tmpR_ok {r : R D} {Q : VK} (R : Rel g.K H0 sp ι h H) (w : WP g H0 sp W ι H (tmpR h r) fun d _ ι' H' => ∀ v, VR g.K ι' H' d v → Q v H') : WP g H0 sp W ι H r fun d _ ι' H' => ∀ v, VR g.K ι' H' d v → Q v H' := by
  cases r with
  | er e v h1 => exact w
  | no => exact w
  | ok a h' =>
    by_cases c : (h'.take h.length).all (belO h.length) = true
    · simp only [tmpR, if_pos c] at w
      by_cases cp : a.pur = true
      · simp only [if_pos cp] at w
        intro ι' H' R' S' v q
        exact w.at (R.backTo R' S' c) v (VR.pur a v cp q)
      · simp only [if_neg cp] at w
        cases a with
        | ref m =>
          simp only at w
          by_cases cm : m < h.length
          · simp only [if_pos cm] at w
            intro ι' H' R' S' v q
            refine w.at (R.backTo R' S' c) v ?_
            unfold VR at q ⊢
            obtain ⟨b, e1, e2⟩ := q
            have hm : m < ι.length := by rw [R.len]; exact cm
            have := S'.pre m ι[m] (by simp [hm])
            rw [e2] at this; cases this
            exact ⟨_, e1, by simp [hm]⟩
          · simp only [if_neg cm] at w
            cases e : h'[m]? with
            | none => simp only [e] at w; exact w
            | some o =>
              simp only [e] at w
              by_cases cb : belO h.length o = true
              · simp only [if_pos cb] at w
                intro ι' H' R' S' v q
                obtain ⟨b, e1, qo⟩ := R'.ob m _ e
                unfold VR at q
                obtain ⟨b', rfl, e5⟩ := q
                rw [e1] at e5; cases e5
                obtain ⟨RB, SB⟩ := R.backTo R' S' c
                have hlen : (h'.take h.length).length = h.length := by rw [← RB.len, R.len]
                have hb : b ∉ ι := fun z => by
                  obtain ⟨i, hi⟩ := List.getElem?_of_mem z
                  have := getElem?_inj' R'.nd (S'.pre i b hi) e1
                  have hl := (List.getElem?_eq_some_iff.mp hi).1
                  rw [R.len] at hl
                  omega
                have hsub : ∀ a, a ∈ ι ++ [b] → a ∈ ι' := fun a z => by
                  rcases List.mem_append.mp z with z | z
                  · obtain ⟨i, hi⟩ := List.getElem?_of_mem z
                    exact List.mem_of_getElem? (S'.pre i a hi)
                  · have : a = b := by simpa using z
                    rw [this]; exact List.mem_of_getElem? e1
                have hget : ∀ k : Nat, k < h.length → (ι ++ [b])[k]? = ι'[k]? := fun k hk => by
                  have hk' : k < ι.length := by rw [R.len]; exact hk
                  rw [List.getElem?_append_left hk', S'.pre k ι[k] (by simp [hk'])]
                  simp [hk']
                have SC : Stp ι H (ι ++ [b]) H' := ⟨fun n a z => by rw [List.getElem?_append_left (List.getElem?_eq_some_iff.mp z).1]; exact z, fun a o z na => ⟨(SB.keep a o z na).1, fun z2 => by
                  rcases List.mem_append.mp z2 with z2 | z2
                  · exact na z2
                  · have : a = b := by simpa using z2
                    subst this
                    exact (S'.keep a o z na).2 (List.mem_of_getElem? e1)⟩, SB.tup⟩
                have RC : Rel g.K H0 sp (ι ++ [b]) (h'.take h.length ++ [o]) H' := by
                  refine ⟨by rw [List.length_append, List.length_append, hlen, R.len]; rfl, ?_, fun k x z => ?_, fun a x z na => RB.base a x z fun z2 => na (List.mem_append_left _ z2), fun a z => R'.new a (hsub a z), fun a z => List.mem_append_left _ (R.spin a z)⟩
                  · rw [List.nodup_append]
                    exact ⟨R.nd, by simp, fun a ha y hy => by
                      have : y = b := by simpa using hy
                      rw [this]; intro z; exact hb (z ▸ ha)⟩
                  · by_cases hk : k < h.length
                    · rw [List.getElem?_append_left (by rw [hlen]; exact hk)] at z
                      have z4 : h'[k]? = some x := by rw [List.getElem?_take] at z; simpa [hk] using z
                      obtain ⟨a2, z5, z6⟩ := R'.ob k x z4
                      exact ⟨a2, by rw [hget k hk]; exact z5, z6.less hsub hget (List.all_eq_true.mp c x (List.mem_of_getElem? z))⟩
                    · have hk2 : k = h.length := by
                        have := (List.getElem?_eq_some_iff.mp z).1
                        rw [List.length_append, hlen] at this
                        simp at this; omega
                      subst hk2
                      rw [List.getElem?_append_right (by rw [hlen]; exact Nat.le_refl _), hlen] at z
                      simp at z; subst z
                      exact ⟨b, by rw [← R.len]; simp, qo.less hsub hget cb⟩
                refine w.at ⟨RC, SC⟩ (.ref b) ?_
                unfold VR
                exact ⟨b, rfl, by rw [← R.len]; simp⟩
              · simp only [if_neg cb] at w; exact w
        | _ => exact w
    · simp only [tmpR, if_neg c] at w; exact w
end
def fTmp (fe : FE) : FE := fun env h => tmpR h (fe env h)
def fTmpB (ft : FT) : FT := fun env h => tmpB h (ft env h)
section
variable {g : G} {W : Wx} {te : TE} {fe : FE} {t : TT} {ft : FT}
theorem sim_tmp (he : SimE g W te fe) : SimE g W te (fTmp fe) := fun H0 sp ι h H env σ Q R E w => he H0 sp ι h H env σ Q R E (tmpR_ok R w)
theorem sim_tmpB (ht : SimT g W t ft) : SimT g W t (fTmpB ft) := fun H0 sp ι h H env σ Q R E w => ht H0 sp ι h H env σ Q R E (tmpB_ok R w)
end
end PF
namespace PF
open PySem PySem.Spec PyProof.Rows L2

/-! ### statements -/
inductive Fl where
  | nx (e : En) | rt (d : D) | bk (e : En) | ct (e : En)
abbrev FS := En → Hs → R Fl
abbrev FG := D → En → Hs → R En
abbrev FGs := List D → En → Hs → R En
def PostS (K : PySem.W.Frag) (Z : Ends) : Fl → Hs → List Addr → Hp → Prop
  | .nx e, _, ι, H => ∀ σ, EnvR K ι H e σ → Z.nx σ H
  | .rt d, _, ι, H => ∀ v, VR K ι H d v → Z.rt v H
  | .bk e, _, ι, H => ∀ σ, EnvR K ι H e σ → Z.bk σ H
  | .ct e, _, ι, H => ∀ σ, EnvR K ι H e σ → Z.ct σ H
def SimS (g : G) (W : Wx) (t : TS) (fs : FS) : Prop := ∀ (H0 : Hp) (sp ι : List Addr) (h : Hs) (H : Hp) (env : En) (σ : L2.St) (Z : Ends), Rel g.K H0 sp ι h H → EnvR g.K ι H env σ →
  WP g H0 sp W ι H (fs env h) (PostS g.K Z) → t Z σ H
def SimG (g : G) (W : Wx) (tg : TG) (fg : FG) : Prop := ∀ (H0 : Hp) (sp ι : List Addr) (h : Hs) (H : Hp) (env : En) (σ : L2.St) (d : D) (v : V) (Q : L2.St → Hp → Prop), Rel g.K H0 sp ι h H → EnvR g.K ι H env σ → VR g.K ι H d v →
  WP g H0 sp W ι H (fg d env h) (fun e _ ι' H' => ∀ σ', EnvR g.K ι' H' e σ' → Q σ' H') → tg v σ H Q
def SimGs (g : G) (W : Wx) (tg : TGs) (fg : FGs) : Prop := ∀ (H0 : Hp) (sp ι : List Addr) (h : Hs) (H : Hp) (env : En) (σ : L2.St) (ds : List D) (vs : List V) (Q : L2.St → Hp → Prop), Rel g.K H0 sp ι h H → EnvR g.K ι H env σ → VRs g.K ι H ds vs →
  WP g H0 sp W ι H (fg ds env h) (fun e _ ι' H' => ∀ σ', EnvR g.K ι' H' e σ' → Q σ' H') → tg vs σ H Q
section
variable {g : G} {W : Wx} {te ta tb : TE} {fe fa fb : FE} {t u : TS} {ft fu : FS} {tc : TT} {fc : FT} {tg : TG} {fg : FG}
/-! targets -/
def gN (i : Nat) : FG := fun d env h => .ok (env.set i (some d)) h
theorem sim_gname (i : Nat) : SimG g W (gName i) (gN i) := fun H0 sp ι h H env σ d v Q R E q w => w.here R _ (E.set q)
def gNilF : FGs := fun ds env h => match ds with
  | [] => .ok env h
  | _ => .no
def gConsF (fg : FG) (fr : FGs) : FGs := fun ds env h => match ds with
  | d :: r => (fg d env h).bnd fun e h1 => fr r e h1
  | [] => .no
theorem sim_gnil : SimGs g W gNil gNilF := by
  intro H0 sp ι h H env σ ds vs Q R E q w
  cases ds with
  | nil => exact ⟨VRs.nil_iff.mp q, w.here R _ E⟩
  | cons d r => exact w.elim
theorem sim_gcons {tr : TGs} {fr : FGs} (hg : SimG g W tg fg) (hr : SimGs g W tr fr) : SimGs g W (gCons tg tr) (gConsF fg fr) := by
  intro H0 sp ι h H env σ ds vs Q R E q w
  cases ds with
  | nil => exact w.elim
  | cons d r =>
    obtain ⟨v, us, rfl, q1, q2⟩ := VRs.cons_iff.mp q
    refine ⟨v, us, rfl, hg H0 sp ι h H env σ d v _ R E q1 (WP.bnd w fun e h1 ι1 H1 R1 S1 w1 σ1 E1 => ?_)⟩
    exact hr H0 sp ι1 h1 H1 e σ1 r us Q R1 E1 (VRs.mono S1 _ _ q2) w1
def gT (n : Nat) (fr : FGs) : FG := fun d env h => match d with
  | .tup ds => if ds.length = n then fr ds env h else .no
  | _ => .no
theorem sim_gtup {n : Nat} {tr : TGs} {fr : FGs} (hr : SimGs g W tr fr) : SimG g W (gTup g.K n tr) (gT n fr) := by
  intro H0 sp ι h H env σ d v Q R E q w
  cases d with
  | tup ds =>
    obtain ⟨hn, w⟩ := ifN w
    obtain ⟨a, vs, rfl, p, r⟩ := q.tupE
    exact ⟨a, vs, rfl, p, by rw [← r.length]; exact hn, hr H0 sp ι h H env σ ds vs Q R E r w⟩
  | _ => exact w.elim
def gS (fo fi : FE) : FG := fun d env h => (fo env h).bnd fun x h1 => (fi env h1).bnd fun y h2 => match own h2 x, y with
  | some (n, ds), .int k => match ixN ds.length k with
    | some j => .ok env (h2.set n (.lst (ds.set j d)))
    | none => .no
  | _, _ => .no
theorem sim_gsub {to ti : TE} {fo fi : FE} (ho : SimE g W to fo) (hi : SimE g W ti fi) : SimG g W (gSub to ti rSetL) (gS fo fi) := by
  intro H0 sp ι h H env σ d v Q R E q w
  refine ho H0 sp ι h H env σ _ R E (WP.bnd w fun x h1 ι1 H1 R1 S1 w1 v1 q1 => ?_)
  refine hi H0 sp ι1 h1 H1 env σ _ R1 (E.mono S1) (WP.bnd w1 fun y h2 ι2 H2 R2 S2 w2 v2 q2 => ?_)
  split at w2
  · rename_i n ds k e
    split at w2
    · rename_i j ej
      obtain ⟨a, vs, rfl, hn, p, r⟩ := own_ok R2 (VR.mono S2 _ _ q1) e
      have T := putL R2 hn (VRs.set (VR.mono (S1.trans S2) _ _ q) j r)
      exact ⟨a, vs, k, j, rfl, q2, p, by rw [← r.length]; exact ej, w2.at T _ ((E.mono (S1.trans S2)).mono T.2)⟩
    · exact w2.elim
  · exact w2.elim

/-! blocks -/
def fNext : FS := fun env h => .ok (.nx env) h
def fSeq (a b : FS) : FS := fun env h => (a env h).bnd fun fl h1 => match fl with
  | .nx e => b e h1
  | .rt d => .ok (.rt d) h1
  | .bk e => .ok (.bk e) h1
  | .ct e => .ok (.ct e) h1
theorem sim_next : SimS g W tNext fNext := fun H0 sp ι h H env σ Z R E w => w.here R _ E
theorem sim_seq (ha : SimS g W t ft) (hb : SimS g W u fu) : SimS g W (tSeq t u) (fSeq ft fu) := by
  intro H0 sp ι h H env σ Z R E w
  refine ha H0 sp ι h H env σ _ R E (WP.bnd w fun fl h1 ι1 H1 R1 S1 w1 => ?_)
  cases fl with
  | nx e => exact fun σ1 E1 => hb H0 sp ι1 h1 H1 e σ1 Z R1 E1 w1
  | rt d => exact w1.here R1
  | bk e => exact w1.here R1
  | ct e => exact w1.here R1
def fBreak : FS := fun env h => .ok (.bk env) h
def fCont : FS := fun env h => .ok (.ct env) h
theorem sim_break : SimS g W tBreak fBreak := fun H0 sp ι h H env σ Z R E w => w.here R _ E
theorem sim_cont : SimS g W tCont fCont := fun H0 sp ι h H env σ Z R E w => w.here R _ E
def fAsg (fe : FE) (fg : FG) : FS := fun env h => (fe env h).bnd fun d h1 => (fg d env h1).bnd fun e h2 => .ok (.nx e) h2
theorem sim_asg (he : SimE g W te fe) (hg : SimG g W tg fg) : SimS g W (tAsg te tg) (fAsg fe fg) := by
  intro H0 sp ι h H env σ Z R E w
  refine he H0 sp ι h H env σ _ R E (WP.bnd w fun d h1 ι1 H1 R1 S1 w1 v1 q1 => ?_)
  refine hg H0 sp ι1 h1 H1 env σ d v1 _ R1 (E.mono S1) q1 (WP.bnd w1 fun e h2 ι2 H2 R2 S2 w2 σ2 E2 => ?_)
  exact w2.here R2 σ2 E2
def fDrop (fe : FE) : FS := fun env h => (fe env h).bnd fun _ h1 => .ok (.nx env) h1
theorem sim_drop (he : SimE g W te fe) : SimS g W (tDrop te) (fDrop fe) := by
  intro H0 sp ι h H env σ Z R E w
  refine he H0 sp ι h H env σ _ R E (WP.bnd w fun d h1 ι1 H1 R1 S1 w1 v1 q1 => ?_)
  exact w1.here R1 σ (E.mono S1)
def fRet (fe : FE) : FS := fun env h => (fe env h).bnd fun d h1 => .ok (.rt d) h1
theorem sim_ret (he : SimE g W te fe) : SimS g W (tRet te) (fRet fe) := by
  intro H0 sp ι h H env σ Z R E w
  refine he H0 sp ι h H env σ _ R E (WP.bnd w fun d h1 ι1 H1 R1 S1 w1 v1 q1 => ?_)
  exact w1.here R1 v1 q1
def fRetN : FS := fun _ h => .ok (.rt .non) h
theorem sim_retN : SimS g W tRetN fRetN := fun H0 sp ι h H env σ Z R E w => w.here R _ rfl
def fIfS (fc : FT) (a b : FS) : FS := fun env h => (fc env h).bnd fun c h1 => if c = true then a env h1 else b env h1
theorem sim_ifS (hc : SimT g W tc fc) (ha : SimS g W t ft) (hb : SimS g W u fu) : SimS g W (tIfS tc t u) (fIfS fc ft fu) := by
  intro H0 sp ι h H env σ Z R E w
  refine hc H0 sp ι h H env σ _ R E (WP.bnd w fun c h1 ι1 H1 R1 S1 w1 => ?_)
  cases c with
  | true => rw [if_pos rfl] at w1 ⊢; exact ha H0 sp ι1 h1 H1 env σ Z R1 (E.mono S1) w1
  | false => rw [if_neg Bool.false_ne_true] at w1 ⊢; exact hb H0 sp ι1 h1 H1 env σ Z R1 (E.mono S1) w1
/-- a, b = e1, e2 -/
def fPar (i j : Nat) (fa : FA) : FS := fun env h => (fa env h).bnd fun ds h1 => match ds with
  | [x, y] => .ok (.nx ((env.set i (some x)).set j (some y))) h1
  | _ => .no
theorem sim_par {i j : Nat} {ta : TA} {fa : FA} (ha : SimA g W ta fa) : SimS g W (tPar i j ta) (fPar i j fa) := by
  intro H0 sp ι h H env σ Z R E w
  refine ha H0 sp ι h H env σ _ R E (WP.bnd w fun ds h1 ι1 H1 R1 S1 w1 vs q => ?_)
  split at w1
  · obtain ⟨v, v', rfl, q1, q2⟩ := q.twoE
    exact ⟨v, v', rfl, w1.here R1 _ (((E.mono S1).set q1).set q2)⟩
  · exact w1.elim
def fPar3 (i j l : Nat) (fa : FA) : FS := fun env h => (fa env h).bnd fun ds h1 => match ds with
  | [x, y, z] => .ok (.nx (((env.set i (some x)).set j (some y)).set l (some z))) h1
  | _ => .no
theorem sim_par3 {i j l : Nat} {ta : TA} {fa : FA} (ha : SimA g W ta fa) : SimS g W (tPar3 i j l ta) (fPar3 i j l fa) := by
  intro H0 sp ι h H env σ Z R E w
  refine ha H0 sp ι h H env σ _ R E (WP.bnd w fun ds h1 ι1 H1 R1 S1 w1 vs q => ?_)
  split at w1
  · obtain ⟨v, r, rfl, q1, q2⟩ := VRs.cons_iff.mp q
    obtain ⟨v', v'', rfl, q3, q4⟩ := q2.twoE
    exact ⟨v, v', v'', rfl, w1.here R1 _ ((((E.mono S1).set q1).set q3).set q4)⟩
  · exact w1.elim
/-- name op= e -/
def fAug (i : Nat) (f : D → D → Hs → R D) (fe : FE) : FS := fun env h => match env[i]? with
  | some (some x) => (fe env h).bnd fun y h1 => (f x y h1).bnd fun z h2 => .ok (.nx (env.set i (some z))) h2
  | _ => .no
theorem sim_aug {i : Nat} {r : R2} {f : D → D → Hs → R D} (hr : SimR2 g r f) (he : SimE g W te fe) : SimS g W (tAug i te r) (fAug i f fe) := by
  intro H0 sp ι h H env σ Z R E w
  unfold fAug at w
  cases hi : env[i]? with
  | none => rw [hi] at w; exact w.elim
  | some o =>
    cases o with
    | none => rw [hi] at w; exact w.elim
    | some x =>
      rw [hi] at w
      obtain ⟨vx, g1, g2⟩ := E.2 i x hi
      refine ⟨vx, g1, he H0 sp ι h H env σ _ R E (WP.bnd w fun y h1 ι1 H1 R1 S1 w1 v1 q1 => ?_)⟩
      refine hr H0 sp ι1 h1 H1 x y vx v1 W _ R1 (VR.mono S1 _ _ g2) q1 (WP.bnd w1 fun z h2 ι2 H2 R2 S2 w2 v2 q2 => ?_)
      exact w2.here R2 _ ((E.mono (S1.trans S2)).set q2)
/-- o[i] op= e, a list -/
def fAugL (fo fi fe : FE) (f : D → D → Hs → R D) : FS := fun env h => (fo env h).bnd fun o h1 => (fi env h1).bnd fun k h2 => (ixD o k h2).bnd fun x h3 => (fe env h3).bnd fun y h4 => (f x y h4).bnd fun z h5 => match own h5 o, k with
  | some (n, ds), .int k => match ixN ds.length k with
    | some j => .ok (.nx env) (h5.set n (.lst (ds.set j z)))
    | none => .no
  | _, _ => .no
theorem sim_augL {to ti : TE} {fo fi : FE} {r : R2} {f : D → D → Hs → R D} (hr : SimR2 g r f) (ho : SimE g W to fo) (hi : SimE g W ti fi) (he : SimE g W te fe) : SimS g W (tAugS to ti te (rIx g.K) r rSetL) (fAugL fo fi fe f) := by
  intro H0 sp ι h H env σ Z R E w
  refine ho H0 sp ι h H env σ _ R E (WP.bnd w fun o h1 ι1 H1 R1 S1 w1 v1 q1 => ?_)
  refine hi H0 sp ι1 h1 H1 env σ _ R1 (E.mono S1) (WP.bnd w1 fun k h2 ι2 H2 R2 S2 w2 v2 q2 => ?_)
  refine sim_ix H0 sp ι2 h2 H2 o k v1 v2 W _ R2 (VR.mono S2 _ _ q1) q2 (WP.bnd w2 fun x h3 ι3 H3 R3 S3 w3 v3 q3 => ?_)
  refine he H0 sp ι3 h3 H3 env σ _ R3 (E.mono ((S1.trans S2).trans S3)) (WP.bnd w3 fun y h4 ι4 H4 R4 S4 w4 v4 q4 => ?_)
  refine hr H0 sp ι4 h4 H4 x y v3 v4 W _ R4 (VR.mono S4 _ _ q3) q4 (WP.bnd w4 fun z h5 ι5 H5 R5 S5 w5 v5 q5 => ?_)
  split at w5
  · rename_i n ds k e
    split at w5
    · rename_i j ej
      have SS := (((S2.trans S3).trans S4).trans S5)
      obtain ⟨a, vs, rfl, hn, p, r⟩ := own_ok R5 (VR.mono SS _ _ q1) e
      have T := putL R5 hn (VRs.set q5 j r)
      exact ⟨a, vs, k, j, rfl, q2, p, by rw [← r.length]; exact ej, w5.at T _ ((E.mono (S1.trans SS)).mono T.2)⟩
    · exact w5.elim
  · exact w5.elim

/-! ### while -/
def whileN (fc : FT) (fb : FS) : Nat → FS
  | 0 => fun _ _ => .no
  | n + 1 => fun env h => (fc env h).bnd fun c h1 => if c = true then (fb env h1).bnd fun fl h2 => match fl with
      | .nx e => whileN fc fb n e h2
      | .ct e => whileN fc fb n e h2
      | .bk e => .ok (.nx e) h2
      | .rt d => .ok (.rt d) h2
    else .ok (.nx env) h1
theorem sim_whileN (hc : SimT g W tc fc) (hb : SimS g W t ft) (n : Nat) : SimS g W (tWhile tc t) (whileN fc ft n) := by
  intro H0 sp ι h H env σ Z R E w
  refine ⟨fun m σ H => ∃ (ι : List Addr) (h : Hs) (env : En), Rel g.K H0 sp ι h H ∧ EnvR g.K ι H env σ ∧ WP g H0 sp W ι H (whileN fc ft m env h) (PostS g.K Z), ⟨n, ι, h, env, R, E, w⟩, ?_⟩
  rintro m σ H ⟨ι, h, env, R, E, w⟩
  cases m with
  | zero => exact w.elim
  | succ m =>
    refine hc H0 sp ι h H env σ _ R E (WP.bnd w fun c h1 ι1 H1 R1 S1 w1 => ?_)
    cases c with
    | false =>
      rw [if_neg Bool.false_ne_true] at w1 ⊢
      exact w1.here R1 σ (E.mono S1)
    | true =>
      rw [if_pos rfl] at w1 ⊢
      refine ⟨fun σ' H' => ∃ (ι : List Addr) (h : Hs) (env : En), Rel g.K H0 sp ι h H' ∧ EnvR g.K ι H' env σ' ∧ WP g H0 sp W ι H' (whileN fc ft m env h) (PostS g.K Z), fun σ' H' x => ⟨m, Nat.lt_succ_self m, x⟩, ?_⟩
      refine hb H0 sp ι1 h1 H1 env σ _ R1 (E.mono S1) (WP.bnd w1 fun fl h2 ι2 H2 R2 S2 w2 => ?_)
      cases fl with
      | nx e => exact fun σ2 E2 => ⟨ι2, h2, e, R2, E2, w2⟩
      | ct e => exact fun σ2 E2 => ⟨ι2, h2, e, R2, E2, w2⟩
      | bk e => exact fun σ2 E2 => w2.here R2 σ2 E2
      | rt d => exact w2.here R2
def R.isNo {α : Type} : R α → Prop
  | .no => True
  | _ => False
open Classical in
noncomputable def fWhile (fc : FT) (fb : FS) : FS := fun env h => if hx : ∃ n, ¬ (whileN fc fb n env h).isNo then whileN fc fb hx.choose env h else .no
theorem sim_while (hc : SimT g W tc fc) (hb : SimS g W t ft) : SimS g W (tWhile tc t) (fWhile fc ft) := by
  intro H0 sp ι h H env σ Z R E w
  unfold fWhile at w
  by_cases hx : ∃ n, ¬ (whileN fc ft n env h).isNo
  · rw [dif_pos hx] at w
    exact sim_whileN hc hb _ H0 sp ι h H env σ Z R E w
  · rw [dif_neg hx] at w; exact w.elim
theorem whileN_more {fc : FT} {fb : FS} : ∀ (n : Nat) (env : En) (h : Hs), ¬ (whileN fc fb n env h).isNo → whileN fc fb (n + 1) env h = whileN fc fb n env h
  | 0, env, h, q => absurd trivial q
  | n + 1, env, h, q => by
    have e1 : whileN fc fb (n + 1 + 1) env h = (fc env h).bnd fun c h1 => if c = true then (fb env h1).bnd fun fl h2 => match fl with
      | .nx e => whileN fc fb (n + 1) e h2
      | .ct e => whileN fc fb (n + 1) e h2
      | .bk e => .ok (.nx e) h2
      | .rt d => .ok (.rt d) h2
      else .ok (.nx env) h1 := rfl
    have e2 : whileN fc fb (n + 1) env h = (fc env h).bnd fun c h1 => if c = true then (fb env h1).bnd fun fl h2 => match fl with
      | .nx e => whileN fc fb n e h2
      | .ct e => whileN fc fb n e h2
      | .bk e => .ok (.nx e) h2
      | .rt d => .ok (.rt d) h2
      else .ok (.nx env) h1 := rfl
    rw [e2] at q
    rw [e1, e2]
    cases h1 : fc env h with
    | er e v hh => rfl
    | no => rfl
    | ok c hh =>
      rw [h1] at q
      simp only [bnd_ok] at q ⊢
      cases c with
      | false => rfl
      | true =>
        simp only [if_true] at q ⊢
        cases h2 : fb env hh with
        | er e v h3 => rfl
        | no => rfl
        | ok fl h3 =>
          rw [h2] at q
          simp only [bnd_ok] at q ⊢
          cases fl with
          | nx e => exact whileN_more n e h3 q
          | ct e => exact whileN_more n e h3 q
          | bk e => rfl
          | rt d => rfl
theorem whileN_le {fc : FT} {fb : FS} {n m : Nat} {env : En} {h : Hs} (hm : n ≤ m) (q : ¬ (whileN fc fb n env h).isNo) : whileN fc fb m env h = whileN fc fb n env h := by
  induction m with
  | zero =>
    have : n = 0 := by omega
    rw [this]
  | succ m ih =>
    by_cases c : n = m + 1
    · rw [c]
    · have e := ih (by omega)
      rw [whileN_more m env h (by rw [e]; exact q), e]
theorem fWhile_eq {fc : FT} {fb : FS} {n : Nat} {env : En} {h : Hs} {r : R Fl} (e : whileN fc fb n env h = r) (q : ¬ r.isNo) : fWhile fc fb env h = r := by
  subst e
  unfold fWhile
  have hx : ∃ n, ¬ (whileN fc fb n env h).isNo := ⟨n, q⟩
  rw [dif_pos hx]
  by_cases c : n ≤ hx.choose
  · exact whileN_le c q
  · exact (whileN_le (show hx.choose ≤ n by omega) hx.choose_spec).symm
end
end PF
namespace PF
open PySem PySem.Spec PyProof.Rows L2

/-! ### what is walked: the items, the lists that must stay as they are -/
structure Src where
  items : List D
  gd : List (Nat × List D)
def Src.good (s : Src) (h : Hs) : Prop := ∀ p ∈ s.gd, h[p.1]? = some (.lst p.2)
abbrev FI := En → Hs → R Src
def Wk (K : PySem.W.Frag) (H0 : Hp) (sp : List Addr) (J : It) (s : Src) (ι0 : List Addr) (Hs0 : Hp) : Prop := ∀ (ι : List Addr) (h : Hs) (H : Hp), Rel K H0 sp ι h H → Stp ι0 Hs0 ι H → s.good h →
  (∀ i, i < s.items.length → J.go i H ∧ ∀ x H', J.yld i H x H' → ∃ d, s.items[i]? = some d ∧ (Rel K H0 sp ι h H' ∧ Stp ι H ι H') ∧ VR K ι H' d x) ∧ J.stop s.items.length H
def SimI (g : G) (W : Wx) (wi : TI) (fi : FI) : Prop := ∀ (H0 : Hp) (sp ι : List Addr) (h : Hs) (H : Hp) (env : En) (σ : L2.St) (Q : It → Hp → Prop), Rel g.K H0 sp ι h H → EnvR g.K ι H env σ →
  WP g H0 sp W ι H (fi env h) (fun s _ ι' H' => ∀ J, Wk g.K H0 sp J s ι' H' → Q J H') → wi σ H Q
open Classical in
noncomputable def forN (fg : FG) (fb : FS) (s : Src) : List D → FS
  | [] => fun env h => if s.good h then .ok (.nx env) h else .no
  | d :: r => fun env h => if s.good h then (fg d env h).bnd fun e h1 => (fb e h1).bnd fun fl h2 => match fl with
      | .nx e2 => forN fg fb s r e2 h2
      | .ct e2 => forN fg fb s r e2 h2
      | .bk e2 => .ok (.nx e2) h2
      | .rt x => .ok (.rt x) h2
    else .no
noncomputable def fFor (fi : FI) (fg : FG) (fb : FS) : FS := fun env h => (fi env h).bnd fun s h1 => forN fg fb s s.items env h1
section
variable {g : G} {W : Wx} {te ta tb : TE} {fe fa fb : FE} {tc : TT} {fc : FT} {tg : TG} {fg : FG} {wi : TI} {fi : FI}
theorem ifC {α : Type} {H0 : Hp} {sp ι : List Addr} {H : Hp} {c : Prop} {i : Decidable c} {r : R α} {P : α → Hs → List Addr → Hp → Prop} (w : WP g H0 sp W ι H (@ite _ c i r .no) P) : c ∧ WP g H0 sp W ι H r P := by
  by_cases hc : c
  · rw [if_pos hc] at w; exact ⟨hc, w⟩
  · rw [if_neg hc] at w; exact w.elim
theorem sim_for {t : TS} {ft : FS} (hi : SimI g W wi fi) (hg : SimG g W tg fg) (hb : SimS g W t ft) : SimS g W (tFor wi tg t) (fFor fi fg ft) := by
  intro H0 sp ι h H env σ Z R E w
  refine hi H0 sp ι h H env σ _ R E (WP.bnd w fun s h1 ι1 H1 R1 S1 w1 J hJ => ?_)
  refine ⟨fun i m σ H => m = s.items.length - i ∧ i ≤ s.items.length ∧ ∃ (ι : List Addr) (h : Hs) (env : En), Rel g.K H0 sp ι h H ∧ Stp ι1 H1 ι H ∧ EnvR g.K ι H env σ ∧ WP g H0 sp W ι H (forN fg ft s (s.items.drop i) env h) (PostS g.K Z), ⟨_, rfl, Nat.zero_le _, ι1, h1, env, R1, Stp.refl _ _, E.mono S1, w1⟩, ?_⟩
  rintro i m σ H ⟨rfl, hle, ι, h, env, R, S, E, w⟩
  by_cases hlt : i < s.items.length
  · rw [List.drop_eq_getElem_cons hlt] at w
    unfold forN at w
    obtain ⟨hgood, w⟩ := ifC w
    obtain ⟨hgo, hy⟩ := (hJ ι h H R S hgood).1 i hlt
    refine .inr ⟨hgo, fun σ' H' => ∃ (ι : List Addr) (h : Hs) (env : En), Rel g.K H0 sp ι h H' ∧ Stp ι1 H1 ι H' ∧ EnvR g.K ι H' env σ' ∧ WP g H0 sp W ι H' (forN fg ft s (s.items.drop (i + 1)) env h) (PostS g.K Z), fun σ' H' x => ⟨s.items.length - (i + 1), by omega, rfl, hlt, x⟩, fun x H' yl => ?_⟩
    obtain ⟨d, hd, ⟨R', S'⟩, q⟩ := hy x H' yl
    have hd' : s.items[i] = d := by
      have := (List.getElem?_eq_some_iff.mp hd).2
      exact this
    rw [hd'] at w
    refine hg H0 sp ι h H' env σ d x _ R' (E.mono S') q (WP.bnd (w.step S') fun e h2 ι2 H2 R2 S2 w2 σ2 E2 => ?_)
    refine hb H0 sp ι2 h2 H2 e σ2 _ R2 E2 (WP.bnd w2 fun fl h3 ι3 H3 R3 S3 w3 => ?_)
    have SS : Stp ι1 H1 ι3 H3 := ((S.trans S').trans S2).trans S3
    cases fl with
    | nx e2 => exact fun σ3 E3 => ⟨ι3, h3, e2, R3, SS, E3, w3⟩
    | ct e2 => exact fun σ3 E3 => ⟨ι3, h3, e2, R3, SS, E3, w3⟩
    | bk e2 => exact fun σ3 E3 => w3.here R3 σ3 E3
    | rt d2 => exact w3.here R3
  · have e : i = s.items.length := by omega
    subst e
    rw [List.drop_length] at w
    unfold forN at w
    obtain ⟨hgood, w⟩ := ifC w
    exact .inl ⟨(hJ ι h H R S hgood).2, w.here R σ E⟩

/-! ### comprehensions -/
open Classical in
noncomputable def lcN (fg : FG) (fc : FT) (fe : FE) (s : Src) (n : Nat) (env : En) : List D → Hs → R Unit
  | [], h => if s.good h then .ok () h else .no
  | d :: r, h => if s.good h then (fg d env h).bnd fun e h1 => (fc e h1).bnd fun b h2 => if b = true then (fe e h2).bnd fun y h3 => match h3[n]? with
        | some (.lst acc) => if acc.length < 16777216 then lcN fg fc fe s n env r (h3.set n (.lst (acc ++ [y]))) else .no
        | _ => .no
      else lcN fg fc fe s n env r h2
    else .no
noncomputable def fLc (fi : FI) (fg : FG) (fc : FT) (fe : FE) (vs : List Nat) : FE := fun env h => (fi env h).bnd fun s h1 => (lcN fg fc fe s h1.length (wipeE env vs) s.items (h1 ++ [.lst []])).bnd fun _ h2 => .ok (.ref h1.length) h2
def OnlyG (tg : TG) (vs : List Nat) : Prop := ∀ (v : V) (σ : L2.St) (H : Hp) (Q : L2.St → Hp → Prop), tg v σ H Q → tg v σ H fun σ' H' => wipe σ' vs = wipe σ vs ∧ Q σ' H'
def OnlyGs (tg : TGs) (vs : List Nat) : Prop := ∀ (us : List V) (σ : L2.St) (H : Hp) (Q : L2.St → Hp → Prop), tg us σ H Q → tg us σ H fun σ' H' => wipe σ' vs = wipe σ vs ∧ Q σ' H'
end
end PF
namespace PF
open PySem PySem.Spec PyProof.Rows L2
section
variable {σ : L2.St}
theorem wipe_set {i : Nat} {o : Option V} : ∀ {vs : List Nat}, i ∈ vs → wipe (σ.set i o) vs = wipe σ vs
  | [], h => by cases h
  | v :: vs, h => by
    by_cases hv : i ∈ vs
    · unfold wipe; rw [wipe_set hv]
    · have e : i = v := by
        rcases List.mem_cons.mp h with e | e
        · exact e
        · exact absurd e hv
      subst e
      have key : ∀ (vs : List Nat), i ∉ vs → wipe (σ.set i o) vs = (wipe σ vs).set i o := by
        intro vs
        induction vs with
        | nil => intro _; rfl
        | cons w ws ih =>
          intro hn
          have h1 : w ≠ i := fun e => hn (by rw [e]; exact List.mem_cons_self)
          unfold wipe
          rw [ih (fun m => hn (List.mem_cons_of_mem _ m)), List.set_comm _ _ h1.symm]
      unfold wipe
      rw [key vs hv, List.set_set]
theorem wipe_wipe : ∀ (vs : List Nat), wipe (wipe σ vs) vs = wipe σ vs := by
  intro vs
  refine List.ext_getElem? fun i => ?_
  by_cases h : i ∈ vs
  · have key : ∀ (τ : L2.St), τ.length = σ.length → (wipe τ vs)[i]? = if i < σ.length then some none else none := by
      intro τ hτ
      cases e : (wipe τ vs)[i]? with
      | none =>
        have h1 : (wipe τ vs).length ≤ i := List.getElem?_eq_none_iff.mp e
        rw [wipe_length, hτ] at h1
        rw [if_neg (by omega)]
      | some o =>
        have h1 := (List.getElem?_eq_some_iff.mp e).1
        rw [wipe_length, hτ] at h1
        rw [if_pos h1]
        cases o with
        | none => rfl
        | some x => exact absurd h (wipe_some e).2
    rw [key _ (wipe_length σ vs), key σ rfl]
  · rw [wipe_out h]
theorem EnvR.wiped' {K : PySem.W.Frag} {ι : List Addr} {H : Hp} {env : En} (vs : List Nat) (E : EnvR K ι H env σ) : EnvR K ι H (wipeE env vs) (L2.wipe σ vs) := by
  have E' := EnvR.wipe (ws := vs) E
  refine ⟨by rw [E'.1, wipe_length], fun i d q => ?_⟩
  obtain ⟨v, h1, h2⟩ := E'.2 i d q
  refine ⟨v, ?_, h2⟩
  rw [wipe_out]
  · exact h1
  · intro hm
    have key : ∀ (ws : List Nat) (env : En), (i ∈ ws ∨ ∀ d, env[i]? ≠ some (some d)) → ∀ d, (wipeE env ws)[i]? ≠ some (some d) := by
      intro ws
      induction ws with
      | nil =>
        intro env h
        rcases h with h | h
        · cases h
        · exact h
      | cons w ws ih =>
        intro env h
        unfold wipeE
        refine ih (env.set w none) ?_
        by_cases hw : i ∈ ws
        · exact .inl hw
        · refine .inr fun d e => ?_
          by_cases hiw : w = i
          · subst hiw
            have hl : w < env.length := by
              have := (List.getElem?_eq_some_iff.mp e).1
              simpa using this
            rw [List.getElem?_set_self hl] at e
            cases e
          · rw [List.getElem?_set_ne hiw] at e
            rcases h with h | h
            · rcases List.mem_cons.mp h with h | h
              · exact hiw h.symm
              · exact hw h
            · exact h d e
    exact key vs env (.inl hm) d q
end
theorem only_name {i : Nat} {vs : List Nat} (h : i ∈ vs) : OnlyG (gName i) vs := fun v σ H Q q => ⟨wipe_set h, q⟩
theorem only_nil {vs : List Nat} : OnlyGs gNil vs := fun us σ H Q q => ⟨q.1, rfl, q.2⟩
theorem only_cons {tg : TG} {tr : TGs} {vs : List Nat} (h : OnlyG tg vs) (hr : OnlyGs tr vs) (mono : ∀ v σ H (Q Q' : L2.St → Hp → Prop), (∀ σ H, Q σ H → Q' σ H) → tg v σ H Q → tg v σ H Q') : OnlyGs (gCons tg tr) vs := by
  rintro us σ H Q ⟨v, r, rfl, q⟩
  refine ⟨v, r, rfl, mono _ _ _ _ _ (fun σ1 H1 q1 => ?_) (h v σ H _ q)⟩
  have := hr r σ1 H1 Q q1.2
  rw [q1.1] at this
  exact this
theorem only_tup {K : PySem.W.Frag} {n : Nat} {tr : TGs} {vs : List Nat} (hr : OnlyGs tr vs) : OnlyG (gTup K n tr) vs := by
  rintro v σ H Q ⟨a, xs, e, p, hl, q⟩
  exact ⟨a, xs, e, p, hl, hr xs σ H Q q⟩
theorem mono_name (i : Nat) : ∀ (v : V) (σ : L2.St) (H : Hp) (Q Q' : L2.St → Hp → Prop), (∀ σ H, Q σ H → Q' σ H) → gName i v σ H Q → gName i v σ H Q' := fun _ _ _ _ _ k q => k _ _ q
section
variable {g : G} {W : Wx} {te ta tb : TE} {fe fa fb : FE} {tc : TT} {fc : FT} {tg : TG} {fg : FG} {wi : TI} {fi : FI}
theorem sim_yes : SimT g W tYes (fun _ h => .ok true h) := fun _ _ _ _ _ _ _ _ r _ w => w.here r
/-- the blocks let nothing out -/
abbrev W0 : Wx := fun _ _ _ _ => False
theorem WP.w0 {α : Type} {H0 : Hp} {sp ι : List Addr} {H : Hp} {r : R α} {P : α → Hs → List Addr → Hp → Prop} (hr : ∀ e v h, r ≠ .er e v h) (w : WP g H0 sp W ι H r P) : WP g H0 sp W0 ι H r P := by
  cases r with
  | ok a h => exact w
  | er e v h => exact absurd rfl (hr e v h)
  | no => exact w
theorem sim_lc {vs : List Nat} (hi : SimI g W wi fi) (hg : SimG g W tg fg) (ho : OnlyG tg vs) (hc : SimT g W tc fc) (he : SimE g W te fe) : SimE g W (tLc wi tg tc te vs) (fLc fi fg fc fe vs) := by
  intro H0 sp ι h H env σ Q R E w
  refine hi H0 sp ι h H env σ _ R E (WP.bnd w fun s h1 ι1 H1 R1 S1 w1 J hJ Dl hD => ?_)
  have E1 := (E.mono S1).wiped' vs
  obtain ⟨R2, S2⟩ := R1.add (ho := .lst []) (o := .lst []) hD fun _ => ⟨[], upd_same, rfl⟩
  have n1 : (ι1 ++ [Dl])[h1.length]? = some Dl := by rw [← R1.len]; simp
  generalize hι2 : ι1 ++ [Dl] = ι2 at *
  generalize hH2 : upd H1 Dl (.lst []) = H2 at *
  -- the end
  have fin : ∀ (ι : List Addr) (h : Hs) (H : Hp), Rel g.K H0 sp ι h H → Stp ι2 H2 ι H → WP g H0 sp W ι H (PF.R.ok () h) (fun _ h' ι' H' => WP g H0 sp W ι' H' (PF.R.ok (D.ref h1.length) h') fun d _ ι' H' => ∀ v, VR g.K ι' H' d v → Q v H') → Q (.ref Dl) H := by
    intro ι h H R S w
    refine (w.here R).here R (.ref Dl) ?_
    unfold VR
    exact ⟨Dl, rfl, S.pre _ _ n1⟩
  have w2 : WP g H0 sp W ι2 H2 (lcN fg fc fe s h1.length (wipeE env vs) s.items (h1 ++ [.lst []])) (fun _ h' ι' H' => WP g H0 sp W ι' H' (PF.R.ok (D.ref h1.length) h') fun d _ ι' H' => ∀ v, VR g.K ι' H' d v → Q v H') :=
    WP.bnd (w1.step S2) fun _ h' ι' H' _ _ w => w
  refine ⟨fun i m H => m = s.items.length - i ∧ i ≤ s.items.length ∧ ∃ (ι : List Addr) (h : Hs), Rel g.K H0 sp ι h H ∧ Stp ι2 H2 ι H ∧ WP g H0 sp W ι H (lcN fg fc fe s h1.length (wipeE env vs) (s.items.drop i) h) (fun _ h' ι' H' => WP g H0 sp W ι' H' (PF.R.ok (D.ref h1.length) h') fun d _ ι' H' => ∀ v, VR g.K ι' H' d v → Q v H'), ⟨_, rfl, Nat.zero_le _, ι2, _, R2, Stp.refl _ _, w2⟩, ?_⟩
  rintro i m H ⟨rfl, hle, ι, h, R, S, w⟩
  by_cases hlt : i < s.items.length
  · rw [List.drop_eq_getElem_cons hlt] at w
    unfold lcN at w
    obtain ⟨hgood, w⟩ := ifC w
    obtain ⟨hgo, hy⟩ := (hJ ι h H R (S2.trans S) hgood).1 i hlt
    refine .inr ⟨hgo, fun H' => ∃ (ι : List Addr) (h : Hs), Rel g.K H0 sp ι h H' ∧ Stp ι2 H2 ι H' ∧ WP g H0 sp W ι H' (lcN fg fc fe s h1.length (wipeE env vs) (s.items.drop (i + 1)) h) (fun _ h' ι' H' => WP g H0 sp W ι' H' (PF.R.ok (D.ref h1.length) h') fun d _ ι' H' => ∀ v, VR g.K ι' H' d v → Q v H'), fun H' x => ⟨s.items.length - (i + 1), by omega, rfl, hlt, x⟩, fun x H' yl => ?_⟩
    obtain ⟨d, hd, ⟨R', S'⟩, q⟩ := hy x H' yl
    have hd' : s.items[i] = d := (List.getElem?_eq_some_iff.mp hd).2
    rw [hd'] at w
    have E' := (E1.mono ((S2.trans S).trans S'))
    have key := hg H0 sp ι h H' (wipeE env vs) (wipe σ vs) d x (fun σ2 H2' => tc σ2 H2' fun b H3 => if b = true then te σ2 H3 fun y H4 => ∃ acc, H4 Dl = some (.lst acc) ∧ acc.length < sizeLine ∧ (∃ (ι : List Addr) (h : Hs), Rel g.K H0 sp ι h (upd H4 Dl (.lst (acc ++ [y]))) ∧ Stp ι2 H2 ι (upd H4 Dl (.lst (acc ++ [y]))) ∧ WP g H0 sp W ι (upd H4 Dl (.lst (acc ++ [y]))) (lcN fg fc fe s h1.length (wipeE env vs) (s.items.drop (i + 1)) h) (fun _ h' ι' H' => WP g H0 sp W ι' H' (PF.R.ok (D.ref h1.length) h') fun d _ ι' H' => ∀ v, VR g.K ι' H' d v → Q v H'))
      else (∃ (ι : List Addr) (h : Hs), Rel g.K H0 sp ι h H3 ∧ Stp ι2 H2 ι H3 ∧ WP g H0 sp W ι H3 (lcN fg fc fe s h1.length (wipeE env vs) (s.items.drop (i + 1)) h) (fun _ h' ι' H' => WP g H0 sp W ι' H' (PF.R.ok (D.ref h1.length) h') fun d _ ι' H' => ∀ v, VR g.K ι' H' d v → Q v H'))) R' E' q (WP.bnd (w.step S') fun e h2 ι3 H3 R3 S3 w3 σ2 Eσ => ?_)
    · have := ho x (wipe σ vs) H' _ key
      rw [wipe_wipe] at this
      exact this
    · refine hc H0 sp ι3 h2 H3 e σ2 _ R3 Eσ (WP.bnd w3 fun b h3 ι4 H4 R4 S4 w4 => ?_)
      have SS4 : Stp ι2 H2 ι4 H4 := ((S.trans S').trans S3).trans S4
      cases b with
      | false =>
        rw [if_neg Bool.false_ne_true] at w4 ⊢
        exact ⟨ι4, h3, R4, SS4, w4⟩
      | true =>
        rw [if_pos rfl] at w4 ⊢
        refine he H0 sp ι4 h3 H4 e σ2 _ R4 (Eσ.mono S4) (WP.bnd w4 fun y h4 ι5 H5 R5 S5 w5 vy qy => ?_)
        have SS5 := SS4.trans S5
        cases hh : h4[h1.length]? with
        | none => simp only [hh] at w5; exact w5.elim
        | some o =>
          cases o with
          | dct b => simp only [hh] at w5; exact w5.elim
          | tb => simp only [hh] at w5; exact w5.elim
          | dtt b => simp only [hh] at w5; exact w5.elim
          | lst acc =>
            simp only [hh] at w5
            obtain ⟨hl, w5⟩ := ifN w5
            obtain ⟨a, e1, us, e2, r⟩ := R5.ob _ _ hh
            have ea := SS5.pre _ _ n1
            rw [e1] at ea; cases ea
            have T := putL R5 e1 (r.app (.one qy))
            exact ⟨us, e2, by rw [← r.length, sizeLine_eq]; exact hl, ι5, _, T.1, SS5.trans T.2, w5.step T.2⟩
  · have e : i = s.items.length := by omega
    subst e
    rw [List.drop_length] at w
    unfold lcN at w
    obtain ⟨hgood, w⟩ := ifC w
    exact .inl ⟨(hJ ι h H R (S2.trans S) hgood).2, fin ι h H R S w⟩

/-! ### sources -/
/-- a list, a tuple, a text -/
def srcOf (h : Hs) (x : D) : Option Src := match x with
  | .tup ds => some ⟨ds, []⟩
  | .str s => some ⟨s.map fun c => .str [c], []⟩
  | .lst ds => some ⟨ds, []⟩
  | .ref n => match h[n]? with
    | some (.lst ds) => some ⟨ds, [(n, ds)]⟩
    | _ => none
  | _ => none
def fIter (fe : FE) : FI := fun env h => (fe env h).bnd fun x h1 => match srcOf h1 x with
  | some s => .ok s h1
  | none => .no
def uIter (K : PySem.W.Frag) (te : TE) : TI := fun σ H R => iList K te σ H R ∨ iTup K te σ H R ∨ iStr te σ H R
theorem pi_or {X : Cx} {tg iter : Expr} {w1 w2 : TI} (h1 : PI X tg iter w1) (h2 : PI X tg iter w2) : PI X tg iter fun σ H R => w1 σ H R ∨ w2 σ H R := ⟨fun pins s σ H R I h => h.elim (h1.run pins s σ H R I) (h2.run pins s σ H R I)⟩
theorem pi_u {X : Cx} {tg e : Expr} {te : TE} (he : PE X e te) : PI X tg e (uIter X.K te) := pi_or (pi_list he) (pi_or (pi_tup he) (pi_str he))
theorem wk_list {K : PySem.W.Frag} {H0 : Hp} {sp ι : List Addr} {H : Hp} {a : Addr} {ds : List D} {vs : List V} (na : a ∉ ι) (p : H a = some (.lst vs)) (r : VRs K ι H ds vs) : Wk K H0 sp (Itl K a) ⟨ds, []⟩ ι H := by
  intro ι1 h1 H1 R1 S1 _
  have p1 := (S1.keep _ _ p na).1
  have r1 := VRs.mono S1 _ _ r
  refine ⟨fun i hi => ⟨⟨vs, vs[i]'(by rw [← r.length]; exact hi), SqL.of p1, by simp⟩, fun x H' y => ?_⟩, ⟨vs, SqL.of p1, by rw [← r.length]; exact Nat.le_refl _⟩⟩
  obtain ⟨rfl, y2⟩ := y
  have e := y2 vs (SqL.of p1)
  obtain ⟨d, h2, q⟩ := r1.back e
  exact ⟨d, h2, ⟨R1, Stp.refl _ _⟩, q⟩
theorem wk_ref {K : PySem.W.Frag} {H0 : Hp} {sp ι : List Addr} {H : Hp} {a : Addr} {n : Nat} {ds : List D} (hn : ι[n]? = some a) : Wk K H0 sp (Itl K a) ⟨ds, [(n, ds)]⟩ ι H := by
  intro ι1 h1 H1 R1 S1 good
  have e0 := good (n, ds) (by simp)
  obtain ⟨b, e1, vs, p1, r1⟩ := R1.ob _ _ e0
  rw [S1.pre _ _ hn] at e1; cases e1
  refine ⟨fun i hi => ⟨⟨vs, vs[i]'(by rw [← r1.length]; exact hi), SqL.of p1, by simp⟩, fun x H' y => ?_⟩, ⟨vs, SqL.of p1, by rw [← r1.length]; exact Nat.le_refl _⟩⟩
  obtain ⟨rfl, y2⟩ := y
  have e := y2 vs (SqL.of p1)
  obtain ⟨d, h2, q⟩ := r1.back e
  exact ⟨d, h2, ⟨R1, Stp.refl _ _⟩, q⟩
theorem wk_tup {K : PySem.W.Frag} {H0 : Hp} {sp ι : List Addr} {H : Hp} {a : Addr} {ds : List D} {vs : List V} (p : SqT K H a vs) (r : VRs K ι H ds vs) : Wk K H0 sp (Itt K a) ⟨ds, []⟩ ι H := by
  intro ι1 h1 H1 R1 S1 _
  have p1 := sqT_step S1 p
  have r1 := VRs.mono S1 _ _ r
  refine ⟨fun i hi => ⟨⟨vs, vs[i]'(by rw [← r.length]; exact hi), p1, by simp⟩, fun x H' y => ?_⟩, ⟨vs, p1, by rw [← r.length]; exact Nat.le_refl _⟩⟩
  obtain ⟨rfl, y2⟩ := y
  have e := y2 vs p1
  obtain ⟨d, h2, q⟩ := r1.back e
  exact ⟨d, h2, ⟨R1, Stp.refl _ _⟩, q⟩
theorem wk_str {K : PySem.W.Frag} {H0 : Hp} {sp ι : List Addr} {H : Hp} {s : List Nat} (hc : ∀ c ∈ s, c < 1114112) : Wk K H0 sp (Its (mk s)) ⟨s.map fun c => .str [c], []⟩ ι H := by
  intro ι1 h1 H1 R1 S1 _
  have len : (mk s).cps.size = s.length := by simp [mk]
  refine ⟨fun i hi => ⟨walk_str.goes i H1 (by rw [len]; simpa using hi) trivial, fun x H' y => ?_⟩, ?_⟩
  · have hi' : i < s.length := by simpa using hi
    obtain ⟨rfl, c, e1, rfl⟩ := walk_str.yields i H1 x H' (by rw [len]; exact hi') trivial y
    have e2 : s[i]? = some c := by simpa [mk] using e1
    refine ⟨.str [c], by rw [List.getElem?_map, e2]; rfl, ⟨R1, Stp.refl _ _⟩, .strI (by simp) fun c' hc' => ?_⟩
    have : c' = c := by simpa using hc'
    rw [this]; exact hc c (List.mem_of_getElem? e2)
  · have := (walk_str (z := mk s)).stops H1 trivial
    rw [len] at this
    simpa using this
theorem sim_iter (he : SimE g W te fe) : SimI g W (uIter g.K te) (fIter fe) := by
  intro H0 sp ι h H env σ Q R E w
  have out : ∀ (P : Prop), (P → uIter g.K te σ H Q) → P → uIter g.K te σ H Q := fun P f p => f p
  cases hx : fe env h with
  | no => unfold fIter at w; rw [hx] at w; exact w.elim
  | er e v hh =>
    refine .inl (he H0 sp ι h H env σ _ R E ?_)
    unfold fIter at w; rw [hx] at w ⊢; exact w
  | ok x h1 =>
    unfold fIter at w
    rw [hx] at w
    simp only [bnd_ok] at w
    cases hs : srcOf h1 x with
    | none => rw [hs] at w; exact w.elim
    | some s =>
      rw [hs] at w
      have w : WP g H0 sp W ι H (PF.R.ok s h1) (fun s _ ι' H' => ∀ J, Wk g.K H0 sp J s ι' H' → Q J H') := w
      cases x with
      | tup ds =>
        cases hs
        refine .inr (.inl (he H0 sp ι h H env σ _ R E ?_))
        rw [hx]
        intro ι1 H1 R1 S1 v q
        obtain ⟨a, vs, rfl, p, r⟩ := q.tupE
        exact ⟨a, rfl, ⟨vs, p⟩, w ι1 H1 R1 S1 _ (wk_tup p r)⟩
      | str s =>
        cases hs
        refine .inr (.inr (he H0 sp ι h H env σ _ R E ?_))
        rw [hx]
        intro ι1 H1 R1 S1 v q
        obtain ⟨rfl, _, hc⟩ := q.strE
        exact ⟨_, rfl, w ι1 H1 R1 S1 _ (wk_str hc)⟩
      | lst ds =>
        cases hs
        refine .inl (he H0 sp ι h H env σ _ R E ?_)
        rw [hx]
        intro ι1 H1 R1 S1 v q
        unfold VR at q
        obtain ⟨a, vs, rfl, p, na, r⟩ := q
        exact ⟨a, rfl, ⟨vs, SqL.of p⟩, w ι1 H1 R1 S1 _ (wk_list na p r)⟩
      | ref n =>
        refine .inl (he H0 sp ι h H env σ _ R E ?_)
        rw [hx]
        intro ι1 H1 R1 S1 v q
        unfold srcOf at hs
        cases hn : h1[n]? with
        | none => simp only [hn] at hs; cases hs
        | some o =>
          simp only [hn] at hs
          cases o with
          | dct b => cases hs
          | tb => cases hs
          | dtt b => cases hs
          | lst ds =>
            cases hs
            unfold VR at q
            obtain ⟨a, rfl, e2⟩ := q
            obtain ⟨b, e3, vs, p, r⟩ := R1.ob _ _ hn
            rw [e2] at e3; cases e3
            exact ⟨a, rfl, ⟨vs, SqL.of p⟩, w ι1 H1 R1 S1 _ (wk_ref e2)⟩
      | _ => cases hs
/-- range -/
def rangeL (lo : Int) (n : Nat) : List D := (List.range n).map fun i => .int (lo + (i : Nat))
def fRng1 (fa : FA) : FI := fun env h => (fa env h).bnd fun xs h1 => match xs with
  | [.int j] => if j.natAbs < 4611686018427387904 then .ok ⟨rangeL 0 j.toNat, []⟩ h1 else .no
  | _ => .no
def fRng2 (fa : FA) : FI := fun env h => (fa env h).bnd fun xs h1 => match xs with
  | [.int i, .int j] => if i.natAbs < 4611686018427387904 ∧ j.natAbs < 4611686018427387904 then .ok ⟨rangeL i (j - i).toNat, []⟩ h1 else .no
  | _ => .no
theorem wk_range {K : PySem.W.Frag} {H0 : Hp} {sp ι : List Addr} {H : Hp} {lo : Int} {n : Nat} : Wk K H0 sp (Itr lo n) ⟨rangeL lo n, []⟩ ι H := by
  intro ι1 h1 H1 R1 S1 _
  have len : (rangeL lo n).length = n := by simp [rangeL]
  refine ⟨fun i hi => ⟨by show i < n; rw [← len]; exact hi, fun x H' y => ?_⟩, by show n ≤ (rangeL lo n).length; rw [len]; exact Nat.le_refl _⟩
  obtain ⟨rfl, rfl⟩ := y
  have hi' : i < n := by rw [← len]; exact hi
  exact ⟨.int (lo + (i : Nat)), by simp [rangeL, hi'], ⟨R1, Stp.refl _ _⟩, rfl⟩
theorem sim_rng1 {ta : TA} {fa : FA} (ha : SimA g W ta fa) : SimI g W (iRng1 ta) (fRng1 fa) := by
  intro H0 sp ι h H env σ Q R E w
  refine ha H0 sp ι h H env σ _ R E (WP.bnd w fun xs h1 ι1 H1 R1 S1 w1 vs q => ?_)
  split at w1
  · obtain ⟨hj, w1⟩ := ifN w1
    obtain ⟨v, rfl, q1⟩ := q.oneE
    have e : v = .int _ := q1
    subst e
    exact ⟨_, rfl, by omega, by omega, w1.here R1 _ wk_range⟩
  · exact w1.elim
theorem sim_rng2 {ta : TA} {fa : FA} (ha : SimA g W ta fa) : SimI g W (iRng2 ta) (fRng2 fa) := by
  intro H0 sp ι h H env σ Q R E w
  refine ha H0 sp ι h H env σ _ R E (WP.bnd w fun xs h1 ι1 H1 R1 S1 w1 vs q => ?_)
  split at w1
  · obtain ⟨hj, w1⟩ := ifN w1
    obtain ⟨v, v', rfl, q1, q2⟩ := q.twoE
    have e : v = .int _ := q1
    have e' : v' = .int _ := q2
    subst e e'
    exact ⟨_, _, rfl, ⟨by omega, by omega, by omega, by omega⟩, w1.here R1 _ wk_range⟩
  · exact w1.elim
end
end PF
namespace PF
open PySem PySem.Spec PyProof.Rows L2

/-! ### defs: a function of data -/
inductive RP where
  | val (d : D) | obj (o : Ob) | er (e : Er) | no
def Ob.pur : Ob → Bool
  | .lst ds => purs ds
  | .dct kvs => purs (kvs.map Prod.fst) && purs (kvs.map Prod.snd)
  | .tb => true
  | .dtt kvs => purs (kvs.map Prod.snd)
def toP (n0 : Nat) (d : D) (h : Hs) : RP := if d.pur = true then .val d else match d with
  | .ref n => if n < n0 then .no else match h[n]? with
    | some o => if o.pur = true then .obj o else .no
    | none => .no
  | _ => .no
def runP (np N : Nat) (fs : FS) (ds : List D) : RP := if ds.length = np then match fs (ds.map some ++ List.replicate (N - np) none) [] with
    | .ok (.nx _) _ => .val .non
    | .ok (.rt d) h => toP 0 d h
    | .ok _ _ => .no
    | .er e _ _ => .er e
    | .no => .no
  else .no
def PostP (g : G) (H : Hp) (Q : VK) (E : XK) : RP → Prop
  | .val d => ∀ H' v, Same H H' → (∀ ι, VR g.K ι H' d v) → Q v H'
  | .obj o => ∀ H' a, Same H H' → H a = none → (∀ ι, ObR g.K ι H' o a) → Q (.ref a) H'
  | .er e => ∀ H' cls d, Same H H' → g.er e H' cls d → E cls d H'
  | .no => False
def SpP (g : G) (F : List D → RP) : Sp := fun vs H Q E => ∃ ds, VRs g.K [] H ds vs ∧ PostP g H Q E (F ds)
theorem ObR.pur {K : PySem.W.Frag} {ι ι' : List Addr} {H : Hp} {o : Ob} {a : Addr} (p : o.pur = true) (h : ObR K ι H o a) : ObR K ι' H o a := by
  cases o with
  | lst ds =>
    obtain ⟨vs, e, r⟩ := h
    exact ⟨vs, e, VRs.pur ds vs p r⟩
  | dct kvs =>
    obtain ⟨us, e, r1, r2, r3⟩ := h
    have p' : (purs (kvs.map Prod.fst) && purs (kvs.map Prod.snd)) = true := p
    rw [Bool.and_eq_true] at p'
    exact ⟨us, e, r1, VRs.pur _ _ p'.1 r2, VRs.pur _ _ p'.2 r3⟩
  | tb => exact h
  | dtt kvs =>
    obtain ⟨us, e, r1, r2⟩ := h
    exact ⟨us, e, r1, VRs.pur _ _ p r2⟩
theorem env_start {K : PySem.W.Frag} {ι : List Addr} {H : Hp} {N : List Str} {ds : List D} {vs : List V} (q : VRs K ι H ds vs) (hl : ds.length ≤ N.length) : EnvR K ι H (ds.map some ++ List.replicate (N.length - ds.length) none) (L2.start N vs) := by
  have hlen := q.length
  refine ⟨by simp [L2.start, hlen], fun i d e => ?_⟩
  by_cases h : i < ds.length
  · rw [List.getElem?_append_left (by simpa using h), List.getElem?_map] at e
    cases e1 : ds[i]? with
    | none => rw [e1] at e; cases e
    | some x =>
      rw [e1] at e
      have : x = d := Option.some.inj (Option.some.inj e)
      subst this
      obtain ⟨v, h1, h2⟩ := q.get e1
      refine ⟨v, ?_, h2⟩
      unfold L2.start
      rw [List.getElem?_append_left (by rw [List.length_map, ← hlen]; exact h), List.getElem?_map, h1]; rfl
  · rw [List.getElem?_append_right (by simpa using h)] at e
    have := List.mem_of_getElem? e
    rw [List.mem_replicate] at this
    exact absurd this.2 (by simp)
theorem same_of {ι ι' : List Addr} {H H' : Hp} (s : Stp ι H ι' H') (e : ι = []) : Same H H' := fun a o h => (s.keep a o h (by rw [e]; simp)).1
theorem toP_fresh {K : PySem.W.Frag} {H0 : Hp} {sp ι0 ι : List Addr} {h : Hs} {H0' H : Hp} (R : Rel K H0 sp ι h H) (s : Stp ι0 H0' ι H) (hsp : ∀ a ∈ sp, a ∈ ι0) {n : Nat} {a : Addr} (hn : ι0.length ≤ n) (e : ι[n]? = some a) : H0 a = none := by
  rcases R.new a (List.mem_of_getElem? e) with z | z
  · exact z
  · obtain ⟨i, hi⟩ := List.getElem?_of_mem (hsp a z)
    have := getElem?_inj' R.nd (s.pre i a hi) e
    have hl := (List.getElem?_eq_some_iff.mp hi).1
    omega
section
variable {P : Program} {w : World} {g : G} {mg : Str → Option Value} {base : Heap}
theorem def_ok {x qual : Str} {st : Stmt} {f : Addr} {fd : FuncData} {N ps : List Str} {k : Nat} {fs : FS} {F : List D → RP} (FF : Fun g.K x qual st f fd) (S : FnScope N ps (defScope st))
    (hb : ∀ (cdv : Value) (A : Around) (outer : List Env) (s : Shared) (H : Hp) (E : XK), Room k (A.deeper (envOfC qual (defScope st) s.heap.objs.size f cdv)) → ∃ t, PSs (cxOf CX0 P w g.K mg base N qual (defScope st) f cdv A outer s H E).nox (defBody st) t ∧ SimS g W0 t fs)
    (ref : ∀ ds, F ds ≠ .no → (runP ps.length N.length fs ds = F ds ∧ ∀ e, F ds ≠ .er e)) : FnOk P w g.K mg base CX0 (k + 1) f fd ps (SpP g F) := by
  have hlen : ∀ ds, F ds ≠ .no → ds.length = ps.length := fun ds h => by
    have e := (ref ds h).1
    unfold runP at e
    by_cases c : ds.length = ps.length
    · exact c
    · rw [if_neg c] at e; exact absurd e.symm h
  have hps : ps.length ≤ N.length := by have := congrArg List.length S.pre; rw [List.length_take] at this; omega
  have notno : ∀ {ds H Q E}, PostP g H Q E (F ds) → F ds ≠ .no := fun {ds H Q E} h e => by rw [e] at h; exact h
  refine FF.ok S (fun vs H Q E h => ?_) (fun cdv A outer s H vs Q E hr h => ?_)
  · obtain ⟨ds, q, m⟩ := h
    rw [← q.length]
    exact hlen ds (notno m)
  · obtain ⟨t, ht, sim⟩ := hb cdv A outer s H E hr
    refine ⟨t, ht, ?_⟩
    obtain ⟨ds, q, m⟩ := h
    have hn := notno m
    have hl := hlen ds hn
    obtain ⟨e, ne⟩ := ref ds hn
    have R0 : Rel g.K H [] [] [] H := ⟨rfl, List.nodup_nil, fun n o z => by simp at z, fun a o z _ => z, fun a z => by simp at z, fun a z => by simp at z⟩
    have E0 := env_start (N := N) q (by omega)
    refine sim H [] [] [] H _ (L2.start N vs) _ R0 E0 ?_
    unfold runP at e
    rw [if_pos hl] at e
    rw [hl]
    cases hr : fs (ds.map some ++ List.replicate (N.length - ps.length) none) [] with
    | no => rw [hr] at e; exact absurd e.symm hn
    | er x v h1 => rw [hr] at e; exact absurd e.symm (ne x)
    | ok fl h1 =>
      rw [hr] at e
      cases fl with
      | nx e1 =>
        have e : RP.val .non = F ds := e
        rw [← e] at m
        exact fun ι' H' R' S' σ' _ => m H' .non (same_of S' rfl) fun ι => rfl
      | bk e1 => exact absurd e.symm hn
      | ct e1 => exact absurd e.symm hn
      | rt d =>
        have e : toP 0 d h1 = F ds := e
        rw [← e] at m
        intro ι' H' R' S' v qv
        unfold toP at m
        by_cases c : d.pur = true
        · rw [if_pos c] at m
          exact m H' v (same_of S' rfl) fun ι => VR.pur d v c qv
        · rw [if_neg c] at m
          cases d with
          | ref n =>
            simp only [Nat.not_lt_zero, if_false] at m
            cases ho : h1[n]? with
            | none => simp only [ho] at m; exact m.elim
            | some o =>
              simp only [ho] at m
              by_cases c2 : o.pur = true
              · rw [if_pos c2] at m
                obtain ⟨a, e1, q1⟩ := R'.ob n o ho
                unfold VR at qv
                obtain ⟨a', rfl, e2⟩ := qv
                rw [e1] at e2; cases e2
                exact m H' a (same_of S' rfl) (toP_fresh R' S' (fun a z => by simp at z) (Nat.zero_le n) e1) fun ι => q1.pur c2
              · rw [if_neg c2] at m; exact m.elim
          | _ => exact m.elim
variable {W : Wx}
/-- a call of a def that raises nothing -/
def fCall (F : List D → RP) (fa : FA) : FE := fun env h => (fa env h).bnd fun xs h1 => match dall (dcl h1) xs with
  | some ds => match F ds with
    | .val d => .ok d h1
    | .obj o => .ok (.ref h1.length) (h1 ++ [o])
    | .er _ => .no
    | .no => .no
  | none => .no
theorem sim_call {F : List D → RP} {ta : TA} {fa : FA} {E : XK} (ha : SimA g W ta fa) : SimE g W (tCall (SpP g F) [] E ta) (fCall F fa) := by
  intro H0 sp ι h H env σ Q R E1 w
  refine ha H0 sp ι h H env σ _ R E1 (WP.bnd w fun xs h1 ι1 H1 R1 S1 w1 vs q => ?_)
  rw [List.append_nil]
  cases hd : dall (dcl h1) xs with
  | none => rw [hd] at w1; exact w1.elim
  | some ds =>
    rw [hd] at w1
    have q' : VRs g.K [] H1 ds vs := dall_ok (fun d v d' qd e => dcl_nil R1 qd e) q hd
    refine ⟨ds, q', ?_⟩
    cases hF : F ds with
    | no => simp only [hF] at w1; exact w1
    | er e => simp only [hF] at w1; exact w1.elim
    | val d =>
      simp only [hF] at w1
      exact fun H' v sm qv => w1.at (R1.grow sm) v (qv _)
    | obj o =>
      simp only [hF] at w1
      intro H' a sm ha qo
      obtain ⟨R2, S2⟩ := R1.adopt (o := o) sm ha fun _ => qo _
      refine w1.at ⟨R2, S2⟩ (.ref a) ?_
      unfold VR
      exact ⟨a, rfl, by rw [← R1.len]; simp⟩

end
end PF
namespace PF
open PySem PySem.Spec PyProof.Rows L2
/-! ### defs that draw from the bag, their first argument -/
structure Bn where
  a : Int
  s : Int
  p : Int
inductive RB where
  | val (d : D) (b : Bn) | obj (o : Ob) (b : Bn) | no
def bagO (b : Bn) (m : Nat) : Ob := .lst [.int b.a, .int b.s, .int b.p, .ref m]
def inz : List D → Option (List Int)
  | [] => some []
  | .int i :: r => match inz r with
    | some l => some (i :: l)
    | none => none
  | _ => none
@[simp] theorem inz_map (l : List Int) : inz (l.map D.int) = some l := by
  induction l with
  | nil => rfl
  | cons a r ih => simp [inz, ih]
theorem inz_eq : ∀ {ds : List D} {l : List Int}, inz ds = some l → ds = l.map D.int
  | [], l, e => by cases e; rfl
  | d :: ds, l, e => by
    cases d with
    | int i =>
      unfold inz at e
      cases h : inz ds with
      | none => rw [h] at e; cases e
      | some l' => rw [h] at e; cases e; rw [inz_eq h]; rfl
    | _ => cases e
def rdB (n : Nat) (h : Hs) : Option (Bn × Nat × List Int) := match h[n]? with
  | some (.lst [.int a, .int s, .int p, .ref m]) => match h[m]? with
    | some (.lst ds) => match inz ds with
      | some cs => some (⟨a, s, p⟩, m, cs)
      | none => none
    | _ => none
  | _ => none
theorem rdB_ok {n m : Nat} {h : Hs} {b : Bn} {cs : List Int} (e : rdB n h = some (b, m, cs)) : h[n]? = some (bagO b m) ∧ h[m]? = some (.lst (cs.map D.int)) := by
  unfold rdB at e
  split at e
  · rename_i a s p m' h1
    split at e
    · rename_i ds h2
      split at e
      · rename_i cs' h3
        cases e
        exact ⟨h1, by rw [h2, inz_eq h3]⟩
      · cases e
    · cases e
  · cases e
def PostB (g : G) (H : Hp) (β c : Addr) (Q : VK) : RB → Prop
  | .val d b => ∀ H' v, (∀ a o, H a = some o → a ≠ β → H' a = some o) → H' β = some (.lst [.int b.a, .int b.s, .int b.p, .ref c]) → (∀ ι, VR g.K ι H' d v) → Q v H'
  | .obj o b => ∀ H' x, (∀ a o, H a = some o → a ≠ β → H' a = some o) → H' β = some (.lst [.int b.a, .int b.s, .int b.p, .ref c]) → H x = none → (∀ ι, ObR g.K ι H' o x) → Q (.ref x) H'
  | .no => False
def SpB (g : G) (F : List D → List Int → Bn → RB) : Sp := fun vs H Q E => ∃ (β c : Addr) (us : List V) (ds : List D) (cs : List Int) (b : Bn), vs = .ref β :: us ∧ H β = some (.lst [.int b.a, .int b.s, .int b.p, .ref c]) ∧ H c = some (.lst (cs.map V.int)) ∧ c ≠ β ∧
  VRs g.K [β, c] H ds us ∧ PostB g H β c Q (F ds cs b)
def toB (cs : List Int) (r : RP) (h : Hs) : RB := match rdB 0 h with
  | some (b, 1, cs') => if cs' = cs then match r with
    | .val d => .val d b
    | .obj o => .obj o b
    | _ => .no
    else .no
  | _ => .no
def runB (np N : Nat) (fs : FS) (ds : List D) (cs : List Int) (b : Bn) : RB := if ds.length + 1 = np then match fs ((D.ref 0 :: ds).map some ++ List.replicate (N - np) none) [bagO b 1, .lst (cs.map D.int)] with
    | .ok (.nx _) h => toB cs (.val .non) h
    | .ok (.rt d) h => toB cs (toP 2 d h) h
    | _ => .no
  else .no
def mask (h : Hs) (n m : Nat) : Hs := (h.set n hid).set m hid
def setB (h : Hs) (n m : Nat) (b : Bn) : Hs := h.set n (bagO b m)
def fCallB (F : List D → List Int → Bn → RB) (fa : FA) : FE := fun env h => (fa env h).bnd fun xs h1 => match xs with
  | .ref n :: r => match rdB n h1 with
    | some (b, m, cs) => if n ≠ m then match dall (dcl (mask h1 n m)) r with
      | some ds => match F ds cs b with
        | .val d b' => .ok d (setB h1 n m b')
        | .obj o b' => .ok (.ref h1.length) (setB h1 n m b' ++ [o])
        | .no => .no
      | none => .no
      else .no
    | none => .no
  | _ => .no
section
variable {K : PySem.W.Frag} {H0 : Hp} {sp ι : List Addr} {h : Hs} {H H' : Hp}
theorem Rel.putG (r : Rel K H0 sp ι h H) {n : Nat} {a : Addr} {o : Ob} (hn : ι[n]? = some a) (k : ∀ b o, H b = some o → b ≠ a → H' b = some o) (new : Stp ι H ι H' → ObR K ι H' o a) : Rel K H0 sp ι (h.set n o) H' ∧ Stp ι H ι H' := by
  obtain ⟨u, hu, nt⟩ := r.inH hn
  have ma : a ∈ ι := List.mem_of_getElem? hn
  have s : Stp ι H ι H' := ⟨fun _ _ e => e, fun b x q m => ⟨k b x q (fun z => m (by rw [z]; exact ma)), m⟩, fun b x q t => k b x q (fun z => by rw [z, hu] at q; cases q; exact nt t)⟩
  refine ⟨⟨by simp [r.len], r.nd, fun m x q => ?_, fun b x q m => ?_, r.new, r.spin⟩, s⟩
  · by_cases hm : m = n
    · subst hm
      have hl : m < h.length := by rw [← r.len]; exact (List.getElem?_eq_some_iff.mp hn).1
      rw [List.getElem?_set_self hl] at q
      cases q
      exact ⟨a, hn, new s⟩
    · rw [List.getElem?_set_ne (Ne.symm hm)] at q
      obtain ⟨b, h1, h2⟩ := r.ob m x q
      have hb : b ≠ a := fun z => by
        subst z
        exact hm (getElem?_inj' r.nd h1 hn)
      obtain ⟨u', hu', _⟩ := h2.there
      exact ⟨b, h1, h2.mono s ((k b u' hu' hb).trans hu'.symm)⟩
  · exact k b x (r.base b x q m) (fun z => m (by rw [z]; exact ma))
theorem bag_at (r : Rel K H0 sp ι h H) {n m : Nat} {b : Bn} {cs : List Int} (h1 : h[n]? = some (bagO b m)) (h2 : h[m]? = some (.lst (cs.map D.int))) :
    ∃ β c, ι[n]? = some β ∧ ι[m]? = some c ∧ H β = some (.lst [.int b.a, .int b.s, .int b.p, .ref c]) ∧ H c = some (.lst (cs.map V.int)) := by
  obtain ⟨β, e1, vs, e2, q⟩ := r.ob n _ h1
  obtain ⟨c, e3, us, e4, q2⟩ := r.ob m _ h2
  obtain ⟨v1, r1, rfl, p1, q⟩ := VRs.cons_iff.mp q
  obtain ⟨v2, r2, rfl, p2, q⟩ := VRs.cons_iff.mp q
  obtain ⟨v3, v4, rfl, p3, p4⟩ := q.twoE
  have x1 : v1 = .int b.a := p1
  have x2 : v2 = .int b.s := p2
  have x3 : v3 = .int b.p := p3
  unfold VR at p4
  obtain ⟨c', x4, e5⟩ := p4
  rw [e3] at e5; cases e5
  subst x1 x2 x3 x4
  rw [VRs.ints q2] at e4
  exact ⟨β, c, e1, e3, e2, e4⟩
theorem bag_ob {m : Nat} {b : Bn} {β c : Addr} (hm : ι[m]? = some c) (e : H β = some (.lst [.int b.a, .int b.s, .int b.p, .ref c])) : ObR K ι H (bagO b m) β :=
  ⟨_, e, .cons rfl (.cons rfl (.cons rfl (.one (by unfold VR; exact ⟨c, rfl, hm⟩))))⟩
end
section
variable {P : Program} {w : World} {g : G} {mg : Str → Option Value} {base : Heap} {W : Wx}
theorem sim_callB {F : List D → List Int → Bn → RB} {ta : TA} {fa : FA} {E : XK} (ha : SimA g W ta fa) : SimE g W (tCall (SpB g F) [] E ta) (fCallB F fa) := by
  intro H0 sp ι h H env σ Q R E1 w
  refine ha H0 sp ι h H env σ _ R E1 (WP.bnd w fun xs h1 ι1 H1 R1 S1 w1 vs q => ?_)
  rw [List.append_nil]
  split at w1
  · rename_i n r
    obtain ⟨v, us, rfl, qv, qr⟩ := VRs.cons_iff.mp q
    unfold VR at qv
    obtain ⟨β', rfl, e0⟩ := qv
    split at w1
    · rename_i b m cs eb
      obtain ⟨hnm, w1⟩ := ifN w1
      obtain ⟨g1, g2⟩ := rdB_ok eb
      obtain ⟨β, c, e1, e2, e3, e4⟩ := bag_at R1 g1 g2
      have hβ : β' = β := by rw [e1] at e0; exact (Option.some.inj e0).symm
      rw [hβ]
      have hcβ : c ≠ β := fun z => hnm (getElem?_inj' R1.nd e1 (by rw [← z]; exact e2))
      split at w1
      · rename_i ds hd
        have hm : ∀ (k : Nat) (o : Ob), (mask h1 n m)[k]? = some o → o ≠ hid → k ≠ n ∧ k ≠ m ∧ h1[k]? = some o := fun k o e' no => by
          unfold mask at e'
          by_cases km : k = m
          · subst km
            have hl : k < (h1.set n hid).length := by
              have := (List.getElem?_eq_some_iff.mp e').1
              simpa using this
            rw [List.getElem?_set_self hl] at e'
            exact absurd (Option.some.inj e').symm no
          · rw [List.getElem?_set_ne (Ne.symm km)] at e'
            by_cases kn : k = n
            · subst kn
              have hl : k < h1.length := by
                have := (List.getElem?_eq_some_iff.mp e').1
                simpa using this
              rw [List.getElem?_set_self hl] at e'
              exact absurd (Option.some.inj e').symm no
            · rw [List.getElem?_set_ne (Ne.symm kn)] at e'
              exact ⟨kn, km, e'⟩
        have hno : ∀ (k : Nat) (a : Addr), k ≠ n → k ≠ m → ι1[k]? = some a → a ∉ [β, c] := fun k a kn km x1 z => by
          rcases List.mem_cons.mp z with z | z
          · exact kn (getElem?_inj' R1.nd x1 (by rw [z]; exact e1))
          · have : a = c := by simpa using z
            exact km (getElem?_inj' R1.nd x1 (by rw [this]; exact e2))
        have q' : VRs g.K [β, c] H1 ds us := dall_ok (fun d v d' qd e => dcl_ok (fun a z => by
          rcases List.mem_cons.mp z with z | z
          · rw [z]; exact List.mem_of_getElem? e1
          · have : a = c := by simpa using z
            rw [this]; exact List.mem_of_getElem? e2) (fun k ds' e' => by
          obtain ⟨kn, km, e'⟩ := hm k _ e' (by intro z; cases z)
          obtain ⟨a, x1, vs', x2, x3⟩ := R1.ob k _ e'
          exact ⟨a, vs', x1, x2, x3, hno k a kn km x1⟩) (fun k kvs e' hk => by
          obtain ⟨kn, km, e'⟩ := hm k _ e' (by intro z; cases z; simp [keyOf] at hk)
          obtain ⟨a, x1, us', x2, x3⟩ := R1.ob k _ e'
          exact ⟨a, us', x1, x2, x3, hno k a kn km x1⟩) d v d' qd e) qr hd
        refine ⟨β, c, us, ds, cs, b, rfl, e3, e4, hcβ, q', ?_⟩
        split at w1
        · rename_i d b' hF
          rw [hF]
          intro H' v' kp eβ qv'
          exact w1.at (R1.putG e1 kp fun _ => bag_ob e2 eβ) v' (qv' _)
        · rename_i o b' hF
          rw [hF]
          intro H' x kp eβ hx qo
          obtain ⟨R2, S2⟩ := R1.putG (H' := fun a => if a = x then none else H' a) e1 (fun a o' ea hne => by
            have : a ≠ x := ne_of_none ea hx
            show (if a = x then none else H' a) = some o'
            rw [if_neg this]; exact kp a o' ea hne) (o := bagO b' m) fun _ => bag_ob e2 (by
            have : β ≠ x := ne_of_none e3 hx
            show (if β = x then none else H' β) = _
            rw [if_neg this]; exact eβ)
          obtain ⟨R3, S3⟩ := R2.adopt (H' := H') (p := x) (o := o) (fun a o' ea => by
            have ea : (if a = x then none else H' a) = some o' := ea
            by_cases hax : a = x
            · rw [if_pos hax] at ea; cases ea
            · rw [if_neg hax] at ea; exact ea) (by show (if x = x then none else H' x) = none; rw [if_pos rfl]) fun _ => qo _
          refine w1.at ⟨R3, S2.trans S3⟩ (.ref x) ?_
          unfold VR
          refine ⟨x, rfl, ?_⟩
          rw [← R1.len]; simp
        · exact w1.elim
      · exact w1.elim
    · exact w1.elim
  · exact w1.elim
theorem defB_ok {x qual : Str} {st : Stmt} {f : Addr} {fd : FuncData} {N ps : List Str} {k : Nat} {fs : FS} {F : List D → List Int → Bn → RB} (FF : Fun g.K x qual st f fd) (S : FnScope N ps (defScope st))
    (hb : ∀ (cdv : Value) (A : Around) (outer : List Env) (s : Shared) (H : Hp) (E : XK), Room k (A.deeper (envOfC qual (defScope st) s.heap.objs.size f cdv)) → ∃ t, PSs (cxOf CX0 P w g.K mg base N qual (defScope st) f cdv A outer s H E).nox (defBody st) t ∧ SimS g W0 t fs)
    (ref : ∀ ds cs b, F ds cs b ≠ .no → runB ps.length N.length fs ds cs b = F ds cs b) : FnOk P w g.K mg base CX0 (k + 1) f fd ps (SpB g F) := by
  have hlen : ∀ ds cs b, F ds cs b ≠ .no → ds.length + 1 = ps.length := fun ds cs b h => by
    have e := ref ds cs b h
    unfold runB at e
    by_cases c : ds.length + 1 = ps.length
    · exact c
    · rw [if_neg c] at e; exact absurd e.symm h
  have hps : ps.length ≤ N.length := by have := congrArg List.length S.pre; rw [List.length_take] at this; omega
  have notno : ∀ {ds cs b H β c Q}, PostB g H β c Q (F ds cs b) → F ds cs b ≠ .no := fun {ds cs b H β c Q} h e => by rw [e] at h; exact h
  refine FF.ok S (fun vs H Q E h => ?_) (fun cdv A outer s H vs Q E hr h => ?_)
  · obtain ⟨β, c, us, ds, cs, b, rfl, _, _, _, q, m⟩ := h
    rw [List.length_cons, ← q.length]
    exact hlen ds cs b (notno m)
  · obtain ⟨t, ht, sim⟩ := hb cdv A outer s H E hr
    refine ⟨t, ht, ?_⟩
    obtain ⟨β, c, us, ds, cs, b, rfl, e1, e2, hc, q, m⟩ := h
    have hn := notno m
    have hl := hlen ds cs b hn
    have e := ref ds cs b hn
    have R0 : Rel g.K H [β, c] [β, c] [bagO b 1, .lst (cs.map D.int)] H := by
      refine ⟨rfl, by simp [Ne.symm hc], fun n o z => ?_, fun a o z _ => z, fun a z => .inr z, fun a z => z⟩
      cases n with
      | zero => cases z; exact ⟨β, rfl, bag_ob rfl e1⟩
      | succ n =>
        cases n with
        | zero => cases z; exact ⟨c, rfl, _, e2, VRs.of_ints cs⟩
        | succ n => simp at z
    have q0 : VRs g.K [β, c] H (D.ref 0 :: ds) (.ref β :: us) := .cons (by unfold VR; exact ⟨β, rfl, rfl⟩) q
    have E0 := env_start (N := N) q0 (by simp; omega)
    refine sim H [β, c] [β, c] _ H _ (L2.start N (.ref β :: us)) _ R0 E0 ?_
    unfold runB at e
    rw [if_pos hl] at e
    have hl' : (D.ref 0 :: ds).length = ps.length := by simp [hl]
    rw [hl']
    have keep : ∀ {ι' H'}, Stp [β, c] H ι' H' → ∀ {h' : Hs} {b' : Bn} {cs' : List Int}, Rel g.K H [β, c] ι' h' H' → rdB 0 h' = some (b', 1, cs') → cs' = cs → (∀ a o, H a = some o → a ≠ β → H' a = some o) ∧ H' β = some (.lst [.int b'.a, .int b'.s, .int b'.p, .ref c]) := by
      intro ι' H' S' h' b' cs' R' er ecs
      obtain ⟨g1, g2⟩ := rdB_ok er
      obtain ⟨β1, c1, f1, f2, f3, f4⟩ := bag_at R' g1 g2
      have z1 := S'.pre 0 β rfl
      have z2 := S'.pre 1 c rfl
      rw [f1] at z1; cases z1
      rw [f2] at z2; cases z2
      refine ⟨fun a o ea hne => ?_, f3⟩
      by_cases hac : a = c
      · rw [hac, e2] at ea
        cases ea
        rw [hac, f4, ecs]
      · exact (S'.keep a o ea (by simp [hne, hac])).1
    cases hr : fs ((D.ref 0 :: ds).map some ++ List.replicate (N.length - ps.length) none) [bagO b 1, .lst (cs.map D.int)] with
    | no => rw [hr] at e; exact absurd e.symm hn
    | er x v h1 => rw [hr] at e; exact absurd e.symm hn
    | ok fl h1 =>
      rw [hr] at e
      have core : ∀ (r : RP), toB cs r h1 = F ds cs b → ∃ b' , rdB 0 h1 = some (b', 1, cs) ∧ ((∃ d, r = .val d ∧ F ds cs b = .val d b') ∨ ∃ o, r = .obj o ∧ F ds cs b = .obj o b') := by
        intro r er
        unfold toB at er
        split at er
        · rename_i b' cs' hb'
          by_cases hcs : cs' = cs
          · rw [if_pos hcs] at er
            cases r with
            | val d => exact ⟨b', by rw [hb', hcs], .inl ⟨d, rfl, er.symm⟩⟩
            | obj o => exact ⟨b', by rw [hb', hcs], .inr ⟨o, rfl, er.symm⟩⟩
            | er x => exact absurd er.symm hn
            | no => exact absurd er.symm hn
          · rw [if_neg hcs] at er; exact absurd er.symm hn
        · exact absurd er.symm hn
      cases fl with
      | nx e1' =>
        obtain ⟨b', hb', h2⟩ := core _ e
        rcases h2 with ⟨d, hd, hF⟩ | ⟨o, ho, _⟩
        · cases hd
          rw [hF] at m
          intro ι' H' R' S' σ' _
          obtain ⟨k1, k2⟩ := keep S' R' hb' rfl
          exact m H' .non k1 k2 fun ι => rfl
        · cases ho
      | bk e1' => exact absurd e.symm hn
      | ct e1' => exact absurd e.symm hn
      | rt d =>
        obtain ⟨b', hb', h2⟩ := core _ e
        intro ι' H' R' S' v qv
        obtain ⟨k1, k2⟩ := keep S' R' hb' rfl
        rcases h2 with ⟨d', hd, hF⟩ | ⟨o, ho, hF⟩
        · rw [hF] at m
          unfold toP at hd
          by_cases cp : d.pur = true
          · rw [if_pos cp] at hd
            cases hd
            exact m H' v k1 k2 fun ι => VR.pur d v cp qv
          · rw [if_neg cp] at hd
            split at hd
            · split at hd
              · cases hd
              · split at hd
                · split at hd <;> cases hd
                · cases hd
            · cases hd
        · rw [hF] at m
          unfold toP at ho
          by_cases cp : d.pur = true
          · rw [if_pos cp] at ho; cases ho
          · rw [if_neg cp] at ho
            split at ho
            · rename_i n
              by_cases c2 : n < 2
              · rw [if_pos c2] at ho; cases ho
              · rw [if_neg c2] at ho
                split at ho
                · rename_i o' ho'
                  by_cases c3 : o'.pur = true
                  · rw [if_pos c3] at ho
                    cases ho
                    obtain ⟨a, f1, q1⟩ := R'.ob n _ ho'
                    unfold VR at qv
                    obtain ⟨a', rfl, f2⟩ := qv
                    rw [f1] at f2; cases f2
                    exact m H' a k1 k2 (toP_fresh R' S' (fun a z => z) (by simp; omega) f1) fun ι => q1.pur c3
                  · rw [if_neg c3] at ho; cases ho
                · cases ho
            · cases ho
end
end PF
namespace PF
open PySem PySem.Spec PyProof.Rows L2
section
variable {X : Cx} {g : G} {W : Wx} {te ta : TE} {fe fa : FE}
theorem pe_gl {x : Str} {v : V} {pos : Pos} (h : ∃ u, X.mg x = some u ∧ L2.RelV v u) (hg : Gl X x := by rfl) (hd : (x == ("__debug__" : Str)) = false := by decide) : PE X (.Name x pos) (tC v) := by
  obtain ⟨u, h1, h2⟩ := h
  exact pe_glob hg h1 h2 hd
/-- in-place operators of ints and texts -/
def uIadd : R2 := fun x y H Q => rI0 (fun i j => .int (i + j)) x y H Q ∨ (fun x y H Q => ∃ i j, x = .str i ∧ y = .str j ∧ i.length + j.length ≤ sizeLine ∧ Q (.str (i ++ j)) H) x y H Q ∨ rExt2 x y H Q
theorem iop_uAdd : OpR X (inplaceOp .Add) uIadd := iop_add.or (iop_add_str.or iop_ext)
def iaddD : D → D → Hs → R D
  | .int i, .int j, h => .ok (.int (i + j)) h
  | .str s, .str t, h => if s.length + t.length ≤ 16777216 then .ok (.str (s ++ t)) h else .no
  | x, y, h => match own h x, lof h y with
    | some (n, ds), some es => if ds.length + es.length ≤ 16777216 then .ok x (h.set n (.lst (ds ++ es))) else .no
    | _, _ => .no
theorem sim_iadd : SimR2 g uIadd iaddD := by
  intro H0 sp ι h H x y vx vy W Q R qx qy w
  unfold iaddD at w
  split at w
  · exact .inl ⟨_, _, qx, qy, w.here R _ rfl⟩
  · obtain ⟨hl, w⟩ := ifN w
    obtain ⟨rfl, l1, c1⟩ := qx.strE
    obtain ⟨rfl, l2, c2⟩ := qy.strE
    refine .inr (.inl ⟨_, _, rfl, rfl, by rw [mk_len, mk_len]; exact szl hl, ?_⟩)
    rw [mk_app]
    exact w.here R _ (.strI (by simpa using hl) fun c hc => (List.mem_append.mp hc).elim (c1 c) (c2 c))
  · split at w
    · rename_i n ds es e1 e2
      obtain ⟨hl, w⟩ := ifN w
      obtain ⟨a, us, rfl, hn, p, r⟩ := own_ok R qx e1
      obtain ⟨b, ws, rfl, p2, r2⟩ := lof_ok R qy e2
      have T := putL R hn (r.app r2)
      exact .inr (.inr ⟨a, b, us, ws, rfl, rfl, p, p2, by rw [← r.length, ← r2.length]; exact szl hl, w.at T _ (VR.mono T.2 _ _ qx)⟩)
    · exact w.elim
theorem sim_isub : SimR2 g (rI0 fun i j => .int (i - j)) subD := sim_sub
/-- truth -/
def truD (x : D) (h : Hs) : R Bool := match x with
  | .non => .ok false h
  | .bl b => .ok b h
  | .int i => .ok (i != 0) h
  | .str s => .ok (!s.isEmpty) h
  | .tup ds => .ok (!ds.isEmpty) h
  | x => match lof h x with
    | some ds => .ok (!ds.isEmpty) h
    | none => .no
def fTru (fe : FE) : FT := fun env h => (fe env h).bnd fun x h1 => truD x h1
theorem isE {α β : Type} {l : List α} {m : List β} (h : l.length = m.length) : l.isEmpty = m.isEmpty := by
  cases l <;> cases m <;> first | rfl | (simp at h)
theorem sim_tru (he : SimE g W te fe) : SimT g W (fun σ H Q => te σ H fun x H' => ∃ k, TruV g.K x H' k ∧ Q k H') (fTru fe) := by
  intro H0 sp ι h H env σ Q R E w
  refine he H0 sp ι h H env σ _ R E (WP.bnd w fun x h1 ι1 H1 R1 S1 w1 v1 q1 => ?_)
  unfold truD at w1
  split at w1
  · have e : v1 = .non := q1
    subst e
    exact ⟨_, rfl, w1.here R1⟩
  · have e : v1 = .bl _ := q1
    subst e
    exact ⟨_, rfl, w1.here R1⟩
  · have e : v1 = .int _ := q1
    subst e
    exact ⟨_, rfl, w1.here R1⟩
  · rename_i s
    obtain ⟨rfl, l, _⟩ := q1.strE
    refine ⟨!s.isEmpty, ⟨by rw [mk_len]; exact szl l, ?_⟩, w1.here R1⟩
    rw [mk_len]
    cases s with
    | nil => rfl
    | cons a r =>
      show (!false) = _
      have : ((((a :: r).length : Nat) : Int) != 0) = true := by
        rw [bne_iff_ne]
        simp
        omega
      rw [this]; rfl
  · obtain ⟨a, vs, rfl, p, r⟩ := q1.tupE
    exact ⟨_, .inr (.inl ⟨vs, p, by rw [isE r.length]⟩), w1.here R1⟩
  · split at w1
    · rename_i ds e
      obtain ⟨a, vs, rfl, p, r⟩ := lof_ok R1 q1 e
      exact ⟨_, .inl ⟨vs, SqL.of p, by rw [isE r.length]⟩, w1.here R1⟩
    · exact w1.elim
def fYes : FT := fun _ h => .ok true h
/-! ### the new bag -/
def newB (ns : List Int) (h : Hs) : R D := if ns.length ≤ 63 then .ok (.ref (h.length + 1)) (h ++ [.lst ((ns.map fun i => if i < 0 then -i else i).map D.int)] ++ [bagO ⟨0, 1234567891, 0⟩ h.length]) else .no
def fNewB (fa : FA) : FE := fun env h => (fa env h).bnd fun xs h1 => match xs with
  | [.scr ns] => newB ns h1
  | _ => .no
def SpN (g : G) : Sp := fun vs H Q E => ∃ (a : Addr) (ns : List Int), vs = [.ref a] ∧ SqL g.K H a (ns.map V.int) ∧ ns.length ≤ 63 ∧ ∀ H' p c, Same H H' → H p = none → H c = none → p ≠ c →
  H' p = some (.lst [.int 0, .int 1234567891, .int 0, .ref c]) → H' c = some (.lst ((ns.map fun i => if i < 0 then -i else i).map V.int)) → Q (.ref p) H'
theorem scr_sq {K : PySem.W.Frag} {ι : List Addr} {H : Hp} {ns : List Int} {v : V} (q : VR K ι H (.scr ns) v) : ∃ a, v = .ref a ∧ SqL K H a (ns.map V.int) := by
  unfold VR at q
  obtain ⟨a, rfl, q⟩ := q
  refine ⟨a, rfl, ?_⟩
  rcases q with ⟨q, _⟩ | q | q
  · exact .inl q
  · rcases q with q | ⟨o, q⟩ <;> cases q
  · exact .inr q
theorem sim_newB {ta : TA} {fa : FA} {E : XK} (ha : SimA g W ta fa) : SimE g W (tCall (SpN g) [] E ta) (fNewB fa) := by
  intro H0 sp ι h H env σ Q R E1 w
  refine ha H0 sp ι h H env σ _ R E1 (WP.bnd w fun xs h1 ι1 H1 R1 S1 w1 vs q => ?_)
  rw [List.append_nil]
  split at w1
  · rename_i ns
    unfold newB at w1
    obtain ⟨hl, w1⟩ := ifN w1
    obtain ⟨v, rfl, q1⟩ := q.oneE
    obtain ⟨a, rfl, q2⟩ := scr_sq q1
    refine ⟨a, ns, rfl, q2, hl, fun H' p c sm hp hc hne ep ec => ?_⟩
    obtain ⟨R2, S2⟩ := R1.adopt (H' := fun b => if b = p then none else H' b) (p := c) (o := .lst ((ns.map fun i => if i < 0 then -i else i).map D.int)) (fun b o eb => by
      have : b ≠ p := ne_of_none eb hp
      show (if b = p then none else H' b) = some o
      rw [if_neg this]; exact sm b o eb) hc fun _ => ⟨_, by
        show (if c = p then none else H' c) = _
        rw [if_neg (Ne.symm hne)]; exact ec, VRs.of_ints _⟩
    obtain ⟨R3, S3⟩ := R2.adopt (H' := H') (p := p) (o := bagO ⟨0, 1234567891, 0⟩ h1.length) (fun b o eb => by
      have eb : (if b = p then none else H' b) = some o := eb
      by_cases hbp : b = p
      · rw [if_pos hbp] at eb; cases eb
      · rw [if_neg hbp] at eb; exact eb) (by show (if p = p then none else H' p) = none; rw [if_pos rfl]) fun s => bag_ob (m := h1.length) (s.pre _ _ (by rw [← R1.len]; simp)) ep
    refine w1.at ⟨R3, S2.trans S3⟩ (.ref p) ?_
    unfold VR
    exact ⟨p, rfl, by
      have : (ι1 ++ [c]).length = h1.length + 1 := by simp [R1.len]
      rw [← this]; simp⟩
  · exact w1.elim
end
section
variable {P : Program} {w : World} {g : G} {mg : Str → Option Value} {base : Heap} {W : Wx}
theorem defN_ok {x qual : Str} {st : Stmt} {f : Addr} {fd : FuncData} {N : List Str} {p0 : Str} {k : Nat} {fs : FS} (FF : Fun g.K x qual st f fd) (S : FnScope N [p0] (defScope st))
    (hb : ∀ (cdv : Value) (A : Around) (outer : List Env) (s : Shared) (H : Hp) (E : XK), Room k (A.deeper (envOfC qual (defScope st) s.heap.objs.size f cdv)) → ∃ t, PSs (cxOf CX0 P w g.K mg base N qual (defScope st) f cdv A outer s H E).nox (defBody st) t ∧ SimS g W0 t fs)
    (ref : ∀ ns : List Int, ns.length ≤ 63 → ∃ h n m, fs (([D.scr ns].map some) ++ List.replicate (N.length - 1) none) [] = .ok (.rt (.ref n)) h ∧ h[n]? = some (bagO ⟨0, 1234567891, 0⟩ m) ∧ h[m]? = some (.lst ((ns.map fun i => if i < 0 then -i else i).map D.int))) : FnOk P w g.K mg base CX0 (k + 1) f fd [p0] (SpN g) := by
  have hps : 1 ≤ N.length := by have := congrArg List.length S.pre; rw [List.length_take] at this; simp at this; omega
  refine FF.ok S (fun vs H Q E h => ?_) (fun cdv A outer s H vs Q E hr h => ?_)
  · obtain ⟨a, ns, rfl, _⟩ := h; rfl
  · obtain ⟨t, ht, sim⟩ := hb cdv A outer s H E hr
    refine ⟨t, ht, ?_⟩
    obtain ⟨a, ns, rfl, q, hl, fin⟩ := h
    obtain ⟨h1, n, m, e, g1, g2⟩ := ref ns hl
    have R0 : Rel g.K H [] [] [] H := ⟨rfl, List.nodup_nil, fun n o z => by simp at z, fun a o z _ => z, fun a z => by simp at z, fun a z => by simp at z⟩
    have q0 : VRs g.K [] H [D.scr ns] [.ref a] := .one (by
      unfold VR
      refine ⟨a, rfl, ?_⟩
      rcases q with q | q
      · exact .inl ⟨q, by simp⟩
      · exact .inr (.inr q))
    have E0 := env_start (N := N) q0 hps
    refine sim H [] [] [] H _ (L2.start N _) _ R0 E0 ?_
    rw [show ([D.scr ns].length) = 1 from rfl, e]
    intro ι' H' R' S' v qv
    obtain ⟨β, c, f1, f2, f3, f4⟩ := bag_at R' g1 g2
    unfold VR at qv
    obtain ⟨β', rfl, f5⟩ := qv
    have hβ : β' = β := by rw [f1] at f5; exact (Option.some.inj f5).symm
    rw [hβ]
    have z := toP_fresh R' S' (fun a z => z) (Nat.zero_le n) f1
    have z2 := toP_fresh R' S' (fun a z => z) (Nat.zero_le m) f2
    exact fin H' β c (same_of S' rfl) z z2 (fun e => by rw [e, f4] at f3; cases hn : ns with
      | nil => rw [hn] at f3; simp at f3
      | cons x r =>
        have := HO.lst.inj (Option.some.inj f3)
        cases r with
        | nil => rw [hn] at this; simp at this
        | cons x2 r =>
          cases r with
          | nil => rw [hn] at this; simp at this
          | cons x3 r =>
            cases r with
            | nil => rw [hn] at this; simp at this
            | cons x4 r => rw [hn] at this; simp at this) f3 f4
/-- the law's own contract -/
def SpL (g : G) : Sp := fun vs H Q _ => ∃ (a : Addr) (ns : List Int), vs = [.ref a] ∧ SqL g.K H a (ns.map V.int) ∧ ns.length ≤ 63 ∧ ∀ H', Q (.bl true) H'
theorem defL_ok {x qual : Str} {st : Stmt} {f : Addr} {fd : FuncData} {N : List Str} {p0 : Str} {k : Nat} {fs : FS} (FF : Fun g.K x qual st f fd) (S : FnScope N [p0] (defScope st))
    (hb : ∀ (cdv : Value) (A : Around) (outer : List Env) (s : Shared) (H : Hp) (E : XK), Room k (A.deeper (envOfC qual (defScope st) s.heap.objs.size f cdv)) → ∃ t, PSs (cxOf CX0 P w g.K mg base N qual (defScope st) f cdv A outer s H E).nox (defBody st) t ∧ SimS g W0 t fs)
    (ref : ∀ ns : List Int, ns.length ≤ 63 → ∃ h, fs (([D.scr ns].map some) ++ List.replicate (N.length - 1) none) [] = .ok (.rt (.bl true)) h) : FnOk P w g.K mg base CX0 (k + 1) f fd [p0] (SpL g) := by
  have hps : 1 ≤ N.length := by have := congrArg List.length S.pre; rw [List.length_take] at this; simp at this; omega
  refine FF.ok S (fun vs H Q E h => ?_) (fun cdv A outer s H vs Q E hr h => ?_)
  · obtain ⟨a, ns, rfl, _⟩ := h; rfl
  · obtain ⟨t, ht, sim⟩ := hb cdv A outer s H E hr
    refine ⟨t, ht, ?_⟩
    obtain ⟨a, ns, rfl, q, hl, fin⟩ := h
    obtain ⟨h1, e⟩ := ref ns hl
    have R0 : Rel g.K H [] [] [] H := ⟨rfl, List.nodup_nil, fun n o z => by simp at z, fun a o z _ => z, fun a z => by simp at z, fun a z => by simp at z⟩
    have q0 : VRs g.K [] H [D.scr ns] [.ref a] := .one (by
      unfold VR
      refine ⟨a, rfl, ?_⟩
      rcases q with q | q
      · exact .inl ⟨q, by simp⟩
      · exact .inr (.inr q))
    have E0 := env_start (N := N) q0 hps
    refine sim H [] [] [] H _ (L2.start N _) _ R0 E0 ?_
    rw [show ([D.scr ns].length) = 1 from rfl, e]
    intro ι' H' R' S' v qv
    have e2 : v = .bl true := qv
    rw [e2]
    exact fin H'
end
end PF
namespace PF
open PySem PySem.Spec PyProof.Rows L2
/-! ### the same rules with the part K of the heap named: a reading that stands in a comprehension must not name its block's context -/
section
variable {X : Cx}
theorem kAdd (K) (h : X.K = K := by rfl) : OpR X (binaryOp Operator.Add) (uAdd K) := h ▸ op_uAdd
theorem kMul (K) (h : X.K = K := by rfl) : OpR X (binaryOp Operator.Mult) (uMul K) := h ▸ op_uMul
theorem kEq (K) (hu : X.A.units + 64 < cLine) (h : X.K = K := by rfl) : OpR X (compareOp CmpOp.Eq) (rEqD K) := h ▸ op_eqD hu
theorem kNe (K) (hu : X.A.units + 64 < cLine) (h : X.K = K := by rfl) : OpR X (compareOp CmpOp.NotEq) (rNeD K) := h ▸ op_neD hu
theorem kIn (K) {k : Nat} (hu : Room k X.A) (h : X.K = K := by rfl) : OpR X (compareOp CmpOp.In) (uIn K) := h ▸ op_uIn hu
theorem kNotIn (K) {k : Nat} (hu : Room k X.A) (h : X.K = K := by rfl) : OpR X (compareOp CmpOp.NotIn) (uNotIn K) := h ▸ op_uNotIn hu
theorem kIx (K) (h : X.K = K := by rfl) : IxR X (rIx K) := h ▸ ix_seq
theorem kSl (K) (h : X.K = K := by rfl) : SlR X (uSl K) := h ▸ sl_u
theorem kLen (K) (h : X.K = K := by rfl) : CallR X (Value.builtin "len") (rLenU K) := h ▸ call_lenU
theorem kIsi (K) (h : X.K = K := by rfl) : CallR X (Value.builtin "isinstance") (rIsi K) := h ▸ call_isi
theorem kIsiT (K) (h : X.K = K := by rfl) : CallR X (Value.builtin "isinstance") (rIsiT K) := h ▸ call_isiT
theorem kTupOf (K) (h : X.K = K := by rfl) : CallR X (Value.type "tuple") fun xs H Q => ∃ p ys, xs = [V.ref p] ∧ ((SqL K H p ys ∧ ∀ (l : Addr), H l = none → Q (V.ref l) (upd H l (HO.tup ys))) ∨ SqT K H p ys ∧ Q (V.ref p) H) := h ▸ call_tuple_of
theorem kLstOf (K) (h : X.K = K := by rfl) : CallR X (Value.type "list") fun xs H Q => ∃ p ys, xs = [V.ref p] ∧ (SqL K H p ys ∨ SqT K H p ys) ∧ ∀ (l : Addr), H l = none → Q (V.ref l) (upd H l (HO.lst ys)) := h ▸ call_list_of
theorem kTru (K) {a : Expr} {ta : TE} (ha : PE X a ta) (he : ∀ whole, isTrue a X.env whole = (do let v ← whole; standAt a.pos; holding [v] (truthy v))) (h : X.K = K := by rfl) : PT X a (fun σ H Q => ta σ H fun x H' => ∃ k, TruV K x H' k ∧ Q k H') := h ▸ pt_truth ha he
theorem kIt (K) {tg e : Expr} {te : TE} (ha : PE X e te) (h : X.K = K := by rfl) : PI X tg e (uIter K te) := h ▸ pi_u ha
theorem kTup (K) {pos : Pos} {es : List Expr} {k : Nat} {t : TGs} {n : Nat} (hc : X.calm = true) (hs : PGs X es t) (h1 : (assignEach es X.env).length = n := by rfl) (h2 : List.findIdx? (fun x => x.fst) (assignEach es X.env) = none := by rfl) (h : X.K = K := by rfl) : PG X (Expr.Tuple es k pos) (gTup K n t) := h ▸ pg_tup hc hs h1 h2
theorem kZip (K) {e1 e2 : Expr} {ta : TA} {p p2 pos pos2 : Pos} (g1 : Gl X (Str.ofString "list")) (m1 : X.mg (Str.ofString "list") = none) (g2 : Gl X (Str.ofString "zip")) (m2 : X.mg (Str.ofString "zip") = none) (ha : PA X [e1, e2] ta) (hc : X.calm = true)
    (q1 : starEach [e1, e2] X.env = (false, eval e1 X.env) :: starEach [e2] X.env := by rfl) (q2 : ((backTo pos2 (starEach [e2] X.env)).any fun x => x.fst) = false := by rfl)
    (q3 : starEach [(Expr.Name (Str.ofString "zip") p2).Call [e1, e2] [] pos2] X.env = (false, eval ((Expr.Name (Str.ofString "zip") p2).Call [e1, e2] [] pos2) X.env) :: starEach [] X.env := by rfl)
    (q4 : ((backTo pos (starEach [] X.env)).any fun x => x.fst) = false := by rfl) (h : X.K = K := by rfl) :
    PE X ((Expr.Name (Str.ofString "list") p).Call [(Expr.Name (Str.ofString "zip") p2).Call [e1, e2] [] pos2] [] pos) (tLZ K ta) := h ▸ pe_listZip g1 m1 g2 m2 ha hc q1 q2 q3 q4
theorem kJoin (K) {o e : Expr} {to te : TE} {apos pos : Pos} (ho : PE X o to) (he : PE X e te) (q1 : starEach [e] X.env = [(false, eval e X.env)] := by rfl) (q2 : attributeBase o (Str.ofString "join") X.env (eval o X.env) = eval o X.env := by rfl) (q3 : (apos.endLine == pos.line) = true := by rfl) (h : X.K = K := by rfl) :
    PE X ((o.Attribute (Str.ofString "join") apos).Call [e] [] pos) (tM1 (fun x xs H Q => ∃ a p ys, x = V.str a ∧ xs = [V.ref p] ∧ (SqL K H p (List.map V.str ys) ∨ SqT K H p (List.map V.str ys)) ∧ (List.map (fun x => x.length) ys).sum + ys.length * a.length ≤ 16777216 ∧ Q (V.str (Txt.join a ys)) H) to te) := h ▸ pe_join ho he q1 q2 q3
/-- o[i] by values, as an augmented store reads it: a list, a tuple or a text -/
theorem get_seq (K) (hK : X.K = K := by rfl) : PGet X (rIx K) := by
  subst hK
  intro pins s σ H x y v u Q I rx ry h
  have hn := line63
  rcases h with h | h | h
  · obtain ⟨p, xs, i, z, rfl, rfl, hq, he, q⟩ := h
    cases rx
    obtain ⟨t, rfl⟩ := ry
    obtain ⟨its, r, pl, hz⟩ := I.list hq
    obtain ⟨j, h1, h2, h3, h4, h5⟩ := atI_get he
    obtain ⟨w, ew, rw'⟩ := r.get h2
    have hl := r.length
    have fin : EP X pins σ Q w s := ⟨z, H, I, rw', q⟩
    by_cases h0 : 0 ≤ i
    · have hj : i.toNat = j := by
        rw [seqIndex_of h0 h5] at h1
        exact Option.some.inj h1
      exact wpAny_getItem_list pl.isList h0 (by omega) (by rw [hj]; simpa using ew) fin
    · have hj : (i + (its.toArray.size : Int)).toNat = j := by
        rw [seqIndex_neg (by omega) h4] at h1
        rw [List.size_toArray, ← hl]
        exact Option.some.inj h1
      exact wpAny_getItem_list_neg pl.isList (by omega) (by rw [List.size_toArray] <;> omega) (by omega) (by rw [hj]; simpa using ew) fin
  · obtain ⟨p, xs, i, z, rfl, rfl, hq, he, q⟩ := h
    cases rx
    obtain ⟨t, rfl⟩ := ry
    obtain ⟨its, r, pl, hz⟩ := I.tuple hq
    obtain ⟨j, h1, h2, h3, h4, h5⟩ := atI_get he
    obtain ⟨w, ew, rw'⟩ := r.get h2
    have hl := r.length
    exact getItem_tuple (j := j) pl (by omega) (by omega) (by rw [List.size_toArray, ← hl]; exact h1) (by simpa using ew) ⟨z, H, I, rw', q⟩
  · obtain ⟨z, i, c, rfl, rfl, hz, he, q⟩ := h
    obtain ⟨t, rfl⟩ := rx
    obtain ⟨t', rfl⟩ := ry
    obtain ⟨j, h1, h2, h3, h4, h5⟩ := atI_get he
    have hl : z.cps.toList.length = z.length := by simp [Str.length]
    rw [hl] at h1 h4 h5
    exact getItem_str (c := c) (by
      have e1 : decide (i < -(2 ^ 63 : Int)) = false := decide_eq_false (by omega)
      have e2 : decide (i ≥ 2 ^ 63) = false := decide_eq_false (by omega)
      rw [e1, e2, Bool.or_false]) (by rw [h1]; simpa using h2) ⟨.str ⟨#[c]⟩, H, I.tok _, ⟨_, rfl⟩, q⟩
end
end PF
namespace PF
open PySem PySem.Spec PyProof.Rows L2
/-! ### what a def's reading gives, as its own specification -/
def noE : RP → RP
  | .er _ => .no
  | r => r
theorem noE_ref (r : RP) (h : noE r ≠ .no) : r = noE r ∧ ∀ e, noE r ≠ .er e := by
  cases r with
  | er e => exact absurd rfl h
  | no => exact absurd rfl h
  | val d => exact ⟨rfl, fun e h => by cases h⟩
  | obj o => exact ⟨rfl, fun e h => by cases h⟩
/-! ### running readings -/
theorem seq_nx {a b : FS} {env e : En} {h h1 : Hs} {P : R Fl → Prop} (q : a env h = .ok (.nx e) h1) (k : P (b e h1)) : P (fSeq a b env h) := by
  unfold fSeq; rw [q]; exact k
theorem seq_rt {a b : FS} {env : En} {d : D} {h h1 : Hs} {P : R Fl → Prop} (q : a env h = .ok (.rt d) h1) (k : P (.ok (.rt d) h1)) : P (fSeq a b env h) := by
  unfold fSeq; rw [q]; exact k
/-- a loop whose body goes on to the next item -/
theorem for_inv {fg : FG} {fb : FS} {s : Src} (P : En → Hs → Prop) (hg : ∀ e h, P e h → s.good h) : ∀ (l : List D), (∀ d ∈ l, ∀ e h, P e h → ∃ e1 h1, fg d e h = .ok e1 h1 ∧ ∃ e2 h2, (fb e1 h1 = .ok (.nx e2) h2 ∨ fb e1 h1 = .ok (.ct e2) h2) ∧ P e2 h2) → ∀ e h, P e h → ∃ e' h', forN fg fb s l e h = .ok (.nx e') h' ∧ P e' h'
  | [], _, e, h, p => by
    unfold forN
    rw [if_pos (hg e h p)]
    exact ⟨e, h, rfl, p⟩
  | d :: r, hb, e, h, p => by
    unfold forN
    rw [if_pos (hg e h p)]
    obtain ⟨e1, h1, q1, e2, h2, q2, p2⟩ := hb d List.mem_cons_self e h p
    rw [q1]
    simp only [bnd_ok]
    rcases q2 with q2 | q2
    · rw [q2]
      simp only [bnd_ok]
      exact for_inv P hg r (fun d m => hb d (List.mem_cons_of_mem _ m)) e2 h2 p2
    · rw [q2]
      simp only [bnd_ok]
      exact for_inv P hg r (fun d m => hb d (List.mem_cons_of_mem _ m)) e2 h2 p2
theorem good_nil (ds : List D) (h : Hs) : (Src.mk ds []).good h := fun p m => by cases m
/-- a comprehension that reads alone: what it gathers, item by item -/
theorem lc_gives {fg : FG} {fc : FT} {fe : FE} {s : Src} {n : Nat} {env : En} (I : Hs → Prop) (hg : ∀ h, I h → s.good h) (f : D → Option D) :
    ∀ (l : List D) (h : Hs) (acc : List D), I h → h[n]? = some (.lst acc) → acc.length + l.length ≤ 16777216 →
    (∀ d ∈ l, ∀ h acc, I h → h[n]? = some (.lst acc) → ∃ e h1 h2, fg d env h = .ok e h1 ∧ (match f d with
      | some y => fc e h1 = .ok true h2 ∧ ∃ h3, fe e h2 = .ok y h3 ∧ h3[n]? = some (.lst acc) ∧ I (h3.set n (.lst (acc ++ [y])))
      | none => fc e h1 = .ok false h2 ∧ h2[n]? = some (.lst acc) ∧ I h2)) →
    ∃ h', lcN fg fc fe s n env l h = .ok () h' ∧ I h' ∧ h'[n]? = some (.lst (acc ++ l.filterMap f))
  | [], h, acc, i, hn, _, _ => by
    unfold lcN
    rw [if_pos (hg h i)]
    exact ⟨h, rfl, i, by simpa using hn⟩
  | d :: r, h, acc, i, hn, hl, hs => by
    obtain ⟨e, h1, h2, q1, q2⟩ := hs d List.mem_cons_self h acc i hn
    unfold lcN
    rw [if_pos (hg h i), q1]
    simp only [bnd_ok]
    simp only [List.length_cons] at hl
    cases hf : f d with
    | none =>
      rw [hf] at q2
      obtain ⟨q2, q3, q4⟩ := q2
      rw [q2]
      simp only [bnd_ok, Bool.false_eq_true, if_false]
      obtain ⟨h', z1, z2, z3⟩ := lc_gives I hg f r h2 acc q4 q3 (by omega) fun d m => hs d (List.mem_cons_of_mem _ m)
      exact ⟨h', z1, z2, by rw [z3, List.filterMap_cons_none hf]⟩
    | some y =>
      rw [hf] at q2
      obtain ⟨q2, h3, q3, q4, q5⟩ := q2
      rw [q2]
      simp only [bnd_ok, if_true]
      rw [q3]
      simp only [bnd_ok]
      rw [q4]
      simp only []
      rw [if_pos (by omega)]
      obtain ⟨h', z1, z2, z3⟩ := lc_gives I hg f r (h3.set n (.lst (acc ++ [y]))) (acc ++ [y]) q5 (by
        rw [List.getElem?_set_self (by exact (List.getElem?_eq_some_iff.mp q4).1)]) (by simp only [List.length_append, List.length_cons, List.length_nil]; omega) fun d m => hs d (List.mem_cons_of_mem _ m)
      exact ⟨h', z1, z2, by rw [z3, List.filterMap_cons_some hf, List.append_assoc]; rfl⟩
end PF
namespace PF
open PySem PySem.Spec PyProof.Rows L2
/-! ### values -/
theorem eqD_nor {x y : D} {h : Hs} (hx : x.nor = true) (hy : y.nor = true) (dx : dpt x ≤ 60) (dy : dpt y ≤ 60) : eqD x y h = .ok (.bl (deq x y)) h := by
  simp [eqD, dref, hx, hy, dx, dy]
theorem neD_nor {x y : D} {h : Hs} (hx : x.nor = true) (hy : y.nor = true) (dx : dpt x ≤ 60) (dy : dpt y ≤ 60) : neD x y h = .ok (.bl (!deq x y)) h := by
  simp [neD, dref, hx, hy, dx, dy]
theorem eqD_str (s t : List Nat) (h : Hs) : eqD (.str s) (.str t) h = .ok (.bl (s == t)) h := by
  rw [eqD_nor rfl rfl (by simp [dpt]) (by simp [dpt])]; simp [deq]
theorem neD_str (s t : List Nat) (h : Hs) : neD (.str s) (.str t) h = .ok (.bl (!(s == t))) h := by
  rw [neD_nor rfl rfl (by simp [dpt]) (by simp [dpt])]; simp [deq]
theorem eqD_int (i j : Int) (h : Hs) : eqD (.int i) (.int j) h = .ok (.bl (i == j)) h := by
  rw [eqD_nor rfl rfl (by simp [dpt]) (by simp [dpt])]; simp [deq]
theorem neD_int (i j : Int) (h : Hs) : neD (.int i) (.int j) h = .ok (.bl (!(i == j))) h := by
  rw [neD_nor rfl rfl (by simp [dpt]) (by simp [dpt])]; simp [deq]
theorem eqD_bl (i j : Bool) (h : Hs) : eqD (.bl i) (.bl j) h = .ok (.bl (i == j)) h := by
  rw [eqD_nor rfl rfl (by simp [dpt]) (by simp [dpt])]; simp [deq]
theorem neD_bl (i j : Bool) (h : Hs) : neD (.bl i) (.bl j) h = .ok (.bl (!(i == j))) h := by
  rw [neD_nor rfl rfl (by simp [dpt]) (by simp [dpt])]; simp [deq]
mutual
theorem deq_refl : ∀ d : D, d.nor = true → deq d d = true
  | .non, _ => by rw [deq]
  | .bl b, _ => by rw [deq]; simp
  | .int _, _ => by rw [deq]; simp
  | .str _, _ => by rw [deq]; simp
  | .tup xs, h => by rw [deq]; exact deqs_refl xs (by simpa using h)
  | .lst xs, h => by rw [deq]; exact deqs_refl xs (by simpa using h)
  | .ref _, h => by cases h
  | .scr _, h => by cases h
  | .dct _ _, h => by cases h
theorem deqs_refl : ∀ ds : List D, nors ds = true → deqs ds ds = true
  | [], _ => by rw [deqs]
  | d :: ds, h => by
    rw [nors_cons, Bool.and_eq_true] at h
    rw [deqs, deq_refl d h.1, deqs_refl ds h.2]; rfl
end
theorem ixN_nat {n k : Nat} (h : k < n) : ixN n (k : Int) = some k := by
  unfold ixN
  rw [if_pos (by omega), if_pos (by omega)]; simp
theorem atI_nat {α : Type} (xs : List α) (k : Nat) : atI xs (k : Int) = xs[k]? := by
  unfold atI ixN
  rw [if_pos (by omega)]
  by_cases h : k < xs.length
  · rw [if_pos (by omega)]; simp
  · rw [if_neg (by omega)]; simp; omega
theorem cut_to {α : Type} (xs : List α) (k : Nat) : cutL xs none (some (k : Int)) = xs.take k := by
  unfold cutL
  rw [HT.sIx_none, HT.sIx_nat]
  simp only [List.drop_zero, Nat.sub_zero]
  by_cases h : k ≤ xs.length
  · rw [Nat.min_eq_left h]
  · rw [Nat.min_eq_right (by omega), List.take_length, List.take_of_length_le (by omega)]
theorem cut_from {α : Type} (xs : List α) (k : Nat) : cutL xs (some (k : Int)) none = xs.drop k := by
  unfold cutL
  rw [HT.sIx_none, HT.sIx_nat]
  by_cases h : k ≤ xs.length
  · rw [Nat.min_eq_left h, List.take_of_length_le (by rw [List.length_drop]; omega)]
  · rw [Nat.min_eq_right (by omega), List.drop_length, List.drop_of_length_le (by omega)]; simp
theorem cut_map {α β : Type} (f : α → β) (xs : List α) (lo hi : Option Int) : cutL (xs.map f) lo hi = (cutL xs lo hi).map f := by
  unfold cutL; rw [List.length_map, ← List.map_drop, ← List.map_take]
theorem cut_len {α : Type} (xs : List α) (lo hi : Option Int) : (cutL xs lo hi).length ≤ xs.length := by
  unfold cutL; rw [List.length_take, List.length_drop]; omega
theorem nors_map_int (l : List Int) : nors (l.map D.int) = true := by
  induction l with
  | nil => rfl
  | cons a r ih => rw [List.map_cons, nors_cons, ih]; rfl
theorem bels_int (n : Nat) (l : List Int) : bels n (l.map D.int) = true := bels_nors n _ (nors_map_int l)
/-- what is new and stands last stays -/
theorem tmp_new (h : Hs) (o : Ob) : tmpR h (.ok (.ref h.length) (h ++ [o])) = .ok (.ref h.length) (h ++ [o]) := by
  unfold tmpR
  simp only [List.take_left]
  split
  · rw [if_neg (by simp [D.pur]), ]
    simp only [Nat.lt_irrefl, if_false]
    rw [List.getElem?_append_right (by omega)]
    simp
  · rfl
noncomputable def tkA : FS := (fIfS (fTest (fOp2 eqD (fOp2 ixD (fVar 0) (fC (.int 0))) (fC (.int 0)))) (fSeq (fAsg (fTmp (fOp2 ixD (fOp2 addD (fSl slD (fOp2 ixD (fVar 0) (fC (.int 3))) (fSo (fOp2 ixD (fVar 0) (fC (.int 2)))) fNo) (fLst (fCons (fC (.int 0)) fNil))) (fC (.int 0)))) (gN 2))
    (fSeq (fAugL (fVar 0) (fC (.int 2)) (fC (.int 1)) iaddD)
    (fSeq (fIfS (fTest (fOp2 geD (fVar 2) (fOp2 powD (fC (.int 10)) (fC (.int 18))))) (fAsg (fVar 2) (gS (fVar 0) (fC (.int 0)))) fNext)
    (fSeq (fAsg (fOp2 addD (fOp2 addD (fOp2 mulD (fOp2 ixD (fVar 0) (fC (.int 1))) (fC (.int 48271))) (fOp2 modD (fCB intD (fCons (fVar 2) fNil)) (fC (.int 2147483647)))) (fOp2 mulD (fC (.int 7919)) (fOp2 ixD (fVar 0) (fC (.int 2))))) (gN 3))
    (fAsg (fOp2 modD (fCB intD (fCons (fVar 3) fNil)) (fC (.int 2147483647))) (gS (fVar 0) (fC (.int 1)))))))) fNext)
noncomputable def tkB : FS := (fSeq (fIfS (fTest (fOp2 gtD (fOp2 ixD (fVar 0) (fC (.int 0))) (fC (.int 0)))) (fSeq (fAsg (fOp2 modD (fCB intD (fCons (fOp2 ixD (fVar 0) (fC (.int 0))) fNil)) (fVar 1)) (gN 4))
    (fSeq (fAsg (fOp2 fdivD (fCB intD (fCons (fOp2 ixD (fVar 0) (fC (.int 0))) fNil)) (fVar 1)) (gS (fVar 0) (fC (.int 0))))
    (fRet (fVar 4)))) fNext)
    (fSeq (fAsg (fOp2 modD (fCB intD (fCons (fOp2 mulD (fOp2 addD (fOp2 ixD (fVar 0) (fC (.int 1))) (fC (.int 1))) (fC (.int 39373))) fNil)) (fC (.int 1000000007))) (gN 5))
    (fSeq (fAsg (fOp2 modD (fCB intD (fCons (fOp2 mulD (fOp2 modD (fCB intD (fCons (fOp2 mulD (fVar 5) (fVar 5)) fNil)) (fC (.int 998244353))) (fC (.int 30011))) fNil)) (fC (.int 998244353))) (gN 6))
    (fRet (fOp2 modD (fCB intD (fCons (fOp2 fdivD (fVar 6) (fC (.int 7))) fNil)) (fVar 1))))))
noncomputable def fsTake : FS := fSeq tkA tkB
noncomputable def alT : FT := (fTest (fOp2 ltD (fVar 3) (fCB lenD (fCons (fVar 2) fNil))))
noncomputable def alB : FS := (fSeq (fAsg (fOp2 ixD (fVar 2) (fVar 3)) (gT 2 (gConsF (gN 4) (gConsF (gN 5) gNilF))))
    (fSeq (fAug 3 iaddD (fC (.int 1)))
    (fSeq (fIfS (fOr (fTest (fOp2 neD (fIsi (fVar 4) ["bool"]) (fIsi (fVar 5) ["bool"]))) (fTest (fOp2 neD (fIsi (fVar 4) ["str"]) (fIsi (fVar 5) ["str"])))) (fRet (fC (.bl false))) fNext)
    (fSeq (fIfS (fTest (fOp2 neD (fIsi (fVar 4) ["tuple", "list"]) (fIsi (fVar 5) ["tuple", "list"]))) (fRet (fC (.bl false))) fNext)
    (fIfS (fTru (fIsi (fVar 4) ["tuple", "list"])) (fSeq (fIfS (fOr (fTest (fOp2 neD (fIsi (fVar 4) ["tuple"]) (fIsi (fVar 5) ["tuple"]))) (fTest (fOp2 neD (fCB lenD (fCons (fVar 4) fNil)) (fCB lenD (fCons (fVar 5) fNil))))) (fRet (fC (.bl false))) fNext)
    (fDrop (fBM "list" extendD (fVar 2) (fCons (fTmp (fCB zipD (fCons (fVar 4) (fCons (fVar 5) fNil)))) fNil)))) (fIfS (fTest (fOp2 neD (fVar 4) (fVar 5))) (fRet (fC (.bl false))) fNext))))))
noncomputable def fsAlike : FS := (fSeq (fPar 2 3 (fCons (fLst (fCons (fTup (fCons (fVar 0) (fCons (fVar 1) fNil))) fNil)) (fCons (fC (.int 0)) fNil)))
    (fSeq (fWhile alT alB)
    (fRet (fC (.bl true)))))
noncomputable def fsSome (F : List D → List Int → Bn → RB) : FS := (fRet (fOp2 ixD (fVar 1) (fCallB F (fCons (fVar 0) (fCons (fCB lenD (fCons (fVar 1) fNil)) fNil)))))
noncomputable def fsBag : FS := (fRet (fLst (fCons (fC (.int 0)) (fCons (fC (.int 1234567891)) (fCons (fC (.int 0)) (fCons (fLc (fIter (fSl slD (fVar 0) fNo (fSo (fC (.int 63))))) (gN 1) fYes (fCB absD (fCons (fVar 1) fNil)) [1]) fNil))))))

/-! ### the drawn numbers -/
abbrev bagH (b : Bn) (cs : List Int) : Hs := [bagO b 1, .lst (cs.map D.int)]
theorem belsB (a s p : Int) : bels 2 [D.int a, .int s, .int p, .ref 1] = true := by
  simp [bels, bel]
theorem ix0 {α : Type} (a b c d : α) : atI [a, b, c, d] (0 : Int) = some a := rfl
theorem ix1 {α : Type} (a b c d : α) : atI [a, b, c, d] (1 : Int) = some b := rfl
theorem ix2 {α : Type} (a b c d : α) : atI [a, b, c, d] (2 : Int) = some c := rfl
theorem ix3 {α : Type} (a b c d : α) : atI [a, b, c, d] (3 : Int) = some d := rfl
theorem ixN0 : ixN 4 (0 : Int) = some 0 := rfl
theorem ixN1 : ixN 4 (1 : Int) = some 1 := rfl
theorem ixN2 : ixN 4 (2 : Int) = some 2 := rfl
theorem head0 (l : List Int) (lo hi : Option Int) : ∃ c, atI (cutL (l.map D.int) lo hi ++ [D.int 0]) (0 : Int) = some (D.int c) := by
  rw [cut_map]
  cases cutL l lo hi with
  | nil => exact ⟨0, rfl⟩
  | cons a r => exact ⟨a, by rw [show (0 : Int) = ((0 : Nat) : Int) from rfl, atI_nat]; rfl⟩
theorem tkA_ok (many : Int) (cs : List Int) (b : Bn) (hc : cs.length ≤ 63) : ∃ o2 o3 b', tkA [some (.ref 0), some (.int many), none, none, none, none, none] (bagH b cs) = .ok (.nx [some (.ref 0), some (.int many), o2, o3, none, none, none]) (bagH b' cs) := by
  obtain ⟨c, hc0⟩ := head0 cs (some b.p) none
  have hl : (cutL (cs.map D.int) (some b.p) none).length + 1 ≤ 16777216 := by
    have := cut_len (cs.map D.int) (some b.p) none
    rw [List.length_map] at this
    omega
  have hb1 := belsB
  have hb2 := bels_int 2 cs
  unfold tkA bagH bagO
  by_cases ha : b.a = 0
  · by_cases hd : (10 : Int) ^ (18 : Int).toNat ≤ c
    · refine ⟨some (.int c), ?_⟩
      simp (decide := true) only [fVar, fC, fOp2, fUn, fNil, fCons, fTup, fLst, fTest, fAnd, fOr, fNot, fAndV, fOrV, fNotV, fIf, fCB, fNo, fSo, fSl, fTmp, fTmpB, fBM, fM1, fAsg, fDrop, fRet, fRetN, fIfS, fPar, fPar3, fAug, fAugL, fNext, fBreak, fCont, gN, gT, gConsF, gNilF, gS, fYes, fTru, fNewB, fIter, fRng1, fRng2, bnd_ok, tmpR, tmpB, lof, own, seqOf, srcOf, addD, subD, fdivD, modD, powD, mulD, negD, ltD, leD, gtD, geD, ixD, slD, lenD, absD, PF.intD, max2D, min2D, listD, tupleD, zipD, iaddD, appendD, extendD, popD, joinD, truD, tyD, isND, notND, D.isNon, List.getElem?_cons_zero, List.getElem?_cons_succ, List.set_cons_zero, List.set_cons_succ, List.length_cons, List.length_nil, List.cons_append, List.nil_append, List.append_nil, List.take_succ_cons, List.take_zero, List.take_nil, List.all_cons, List.all_nil, Bool.and_true, Bool.true_and, Bool.and_self, if_true, if_false, Bool.false_eq_true, Nat.reduceAdd, Nat.zero_add, Nat.reduceLeDiff, Nat.reduceLT, ite_true, ite_false, reduceIte, List.map_cons, List.map_nil, List.replicate, List.length_append, List.getElem?_nil, Option.isSome_some, beq_self_eq_true, fSeq, eqD_int, ix0, ix1, ix2, ix3, ixN0, ixN1, ixN2, hc0, hl, hb1, hb2, ha, hd, belO, D.pur, beq_self_eq_true, decide_true, decide_false, Int.reduceLE, and_self, true_and, and_true, ne_eq, not_false_iff, Int.reduceEq, or_true, true_or]
      exact ⟨_, ⟨c, _, _⟩, rfl⟩
    · refine ⟨some (.int c), ?_⟩
      simp (decide := true) only [fVar, fC, fOp2, fUn, fNil, fCons, fTup, fLst, fTest, fAnd, fOr, fNot, fAndV, fOrV, fNotV, fIf, fCB, fNo, fSo, fSl, fTmp, fTmpB, fBM, fM1, fAsg, fDrop, fRet, fRetN, fIfS, fPar, fPar3, fAug, fAugL, fNext, fBreak, fCont, gN, gT, gConsF, gNilF, gS, fYes, fTru, fNewB, fIter, fRng1, fRng2, bnd_ok, tmpR, tmpB, lof, own, seqOf, srcOf, addD, subD, fdivD, modD, powD, mulD, negD, ltD, leD, gtD, geD, ixD, slD, lenD, absD, PF.intD, max2D, min2D, listD, tupleD, zipD, iaddD, appendD, extendD, popD, joinD, truD, tyD, isND, notND, D.isNon, List.getElem?_cons_zero, List.getElem?_cons_succ, List.set_cons_zero, List.set_cons_succ, List.length_cons, List.length_nil, List.cons_append, List.nil_append, List.append_nil, List.take_succ_cons, List.take_zero, List.take_nil, List.all_cons, List.all_nil, Bool.and_true, Bool.true_and, Bool.and_self, if_true, if_false, Bool.false_eq_true, Nat.reduceAdd, Nat.zero_add, Nat.reduceLeDiff, Nat.reduceLT, ite_true, ite_false, reduceIte, List.map_cons, List.map_nil, List.replicate, List.length_append, List.getElem?_nil, Option.isSome_some, beq_self_eq_true, fSeq, eqD_int, ix0, ix1, ix2, ix3, ixN0, ixN1, ixN2, hc0, hl, hb1, hb2, ha, hd, belO, D.pur, beq_self_eq_true, decide_true, decide_false, Int.reduceLE, and_self, true_and, and_true, ne_eq, not_false_iff, Int.reduceEq, or_true, true_or]
      exact ⟨_, ⟨0, _, _⟩, rfl⟩
  · refine ⟨none, none, b, ?_⟩
    simp (decide := true) only [fVar, fC, fOp2, fUn, fNil, fCons, fTup, fLst, fTest, fAnd, fOr, fNot, fAndV, fOrV, fNotV, fIf, fCB, fNo, fSo, fSl, fTmp, fTmpB, fBM, fM1, fAsg, fDrop, fRet, fRetN, fIfS, fPar, fPar3, fAug, fAugL, fNext, fBreak, fCont, gN, gT, gConsF, gNilF, gS, fYes, fTru, fNewB, fIter, fRng1, fRng2, bnd_ok, tmpR, tmpB, lof, own, seqOf, srcOf, addD, subD, fdivD, modD, powD, mulD, negD, ltD, leD, gtD, geD, ixD, slD, lenD, absD, PF.intD, max2D, min2D, listD, tupleD, zipD, iaddD, appendD, extendD, popD, joinD, truD, tyD, isND, notND, D.isNon, List.getElem?_cons_zero, List.getElem?_cons_succ, List.set_cons_zero, List.set_cons_succ, List.length_cons, List.length_nil, List.cons_append, List.nil_append, List.append_nil, List.take_succ_cons, List.take_zero, List.take_nil, List.all_cons, List.all_nil, Bool.and_true, Bool.true_and, Bool.and_self, if_true, if_false, Bool.false_eq_true, Nat.reduceAdd, Nat.zero_add, Nat.reduceLeDiff, Nat.reduceLT, ite_true, ite_false, reduceIte, List.map_cons, List.map_nil, List.replicate, List.length_append, List.getElem?_nil, Option.isSome_some, beq_self_eq_true, fSeq, eqD_int, ix0, ix1, ix2, ix3, ixN0, ixN1, ixN2, beq_iff_eq, ha, decide_false, beq_eq_false_iff_ne, ne_eq, not_false_iff]
theorem take_gen (many : Int) (hm : 1 ≤ many) (hm2 : many < 1073741824) (cs : List Int) (b : Bn) (hc : cs.length ≤ 63) : ∃ v b', runB 2 7 fsTake [.int many] cs b = .val (.int v) b' ∧ 0 ≤ v ∧ v < many := by
  obtain ⟨o2, o3, b', e⟩ := tkA_ok many cs b hc
  have hn : (many = 0) = False := by simp; omega
  have hk : many.natAbs < 1073741824 := by omega
  have r1 : ∀ x : Int, 0 ≤ x.fmod many ∧ x.fmod many < many := fun x => by
    rw [Int.fmod_eq_emod_of_nonneg x (by omega)]
    exact ⟨Int.emod_nonneg _ (by omega), Int.emod_lt_of_pos _ (by omega)⟩
  have hb1 : ∀ a s p, rdB 0 [Ob.lst [D.int a, .int s, .int p, .ref 1], Ob.lst (cs.map D.int)] = some (⟨a, s, p⟩, 1, cs) := fun a s p => by
    simp [rdB]
  by_cases ha : 0 < b'.a
  · refine ⟨b'.a.fmod many, ⟨b'.a.fdiv many, b'.s, b'.p⟩, ?_, (r1 _).1, (r1 _).2⟩
    unfold runB fsTake
    rw [if_pos (show [D.int many].length + 1 = 2 from rfl)]
    show (match fSeq tkA tkB [some (.ref 0), some (.int many), none, none, none, none, none] (bagH b cs) with
      | .ok (.nx _) h => toB cs (.val .non) h
      | .ok (.rt d) h => toB cs (toP 2 d h) h
      | _ => .no) = _
    unfold fSeq
    rw [e]
    unfold tkB bagH bagO
    simp (decide := true) only [fVar, fC, fOp2, fUn, fNil, fCons, fTup, fLst, fTest, fAnd, fOr, fNot, fAndV, fOrV, fNotV, fIf, fCB, fNo, fSo, fSl, fTmp, fTmpB, fBM, fM1, fAsg, fDrop, fRet, fRetN, fIfS, fPar, fPar3, fAug, fAugL, fNext, fBreak, fCont, gN, gT, gConsF, gNilF, gS, fYes, fTru, fNewB, fIter, fRng1, fRng2, bnd_ok, tmpR, tmpB, lof, own, seqOf, srcOf, addD, subD, fdivD, modD, powD, mulD, negD, ltD, leD, gtD, geD, ixD, slD, lenD, absD, PF.intD, max2D, min2D, listD, tupleD, zipD, iaddD, appendD, extendD, popD, joinD, truD, tyD, isND, notND, D.isNon, List.getElem?_cons_zero, List.getElem?_cons_succ, List.set_cons_zero, List.set_cons_succ, List.length_cons, List.length_nil, List.cons_append, List.nil_append, List.append_nil, List.take_succ_cons, List.take_zero, List.take_nil, List.all_cons, List.all_nil, Bool.and_true, Bool.true_and, Bool.and_self, if_true, if_false, Bool.false_eq_true, Nat.reduceAdd, Nat.zero_add, Nat.reduceLeDiff, Nat.reduceLT, ite_true, ite_false, reduceIte, List.map_cons, List.map_nil, List.replicate, List.length_append, List.getElem?_nil, Option.isSome_some, beq_self_eq_true, fSeq, ix0, ix1, ix2, ix3, ixN0, ixN1, ixN2, ha, hn, hk, toB, toP, D.pur, hb1, decide_true, ne_eq, not_false_iff, and_self]
  · have hB : ∀ x : Int, ((x.fmod 1000000007).natAbs < 18446744073709551616) = True := fun x => by
      rw [Int.fmod_eq_emod_of_nonneg x (by decide)]
      have h1 := Int.emod_nonneg x (b := 1000000007) (by decide)
      have h2 := Int.emod_lt_of_pos x (b := 1000000007) (by decide)
      simp only [eq_iff_iff, iff_true]; omega
    suffices hh : ∃ x : Int, runB 2 7 fsTake [.int many] cs b = .val (.int (x.fmod many)) b' by
      obtain ⟨x, hx⟩ := hh
      exact ⟨_, b', hx, (r1 x).1, (r1 x).2⟩
    show ∃ x : Int, (match fSeq tkA tkB [some (.ref 0), some (.int many), none, none, none, none, none] (bagH b cs) with
        | .ok (.nx _) h => toB cs (.val .non) h
        | .ok (.rt d) h => toB cs (toP 2 d h) h
        | _ => .no) = RB.val (.int (x.fmod many)) b'
    unfold fSeq
    rw [e]
    unfold tkB bagH bagO
    simp (decide := true) only [fVar, fC, fOp2, fUn, fNil, fCons, fTup, fLst, fTest, fAnd, fOr, fNot, fAndV, fOrV, fNotV, fIf, fCB, fNo, fSo, fSl, fTmp, fTmpB, fBM, fM1, fAsg, fDrop, fRet, fRetN, fIfS, fPar, fPar3, fAug, fAugL, fNext, fBreak, fCont, gN, gT, gConsF, gNilF, gS, fYes, fTru, fNewB, fIter, fRng1, fRng2, bnd_ok, tmpR, tmpB, lof, own, seqOf, srcOf, addD, subD, fdivD, modD, powD, mulD, negD, ltD, leD, gtD, geD, ixD, slD, lenD, absD, PF.intD, max2D, min2D, listD, tupleD, zipD, iaddD, appendD, extendD, popD, joinD, truD, tyD, isND, notND, D.isNon, List.getElem?_cons_zero, List.getElem?_cons_succ, List.set_cons_zero, List.set_cons_succ, List.length_cons, List.length_nil, List.cons_append, List.nil_append, List.append_nil, List.take_succ_cons, List.take_zero, List.take_nil, List.all_cons, List.all_nil, Bool.and_true, Bool.true_and, Bool.and_self, if_true, if_false, Bool.false_eq_true, Nat.reduceAdd, Nat.zero_add, Nat.reduceLeDiff, Nat.reduceLT, ite_true, ite_false, reduceIte, List.map_cons, List.map_nil, List.replicate, List.length_append, List.getElem?_nil, Option.isSome_some, beq_self_eq_true, fSeq, ix0, ix1, ix2, ix3, ixN0, ixN1, ixN2, ha, hn, hk, hB, toB, toP, D.pur, hb1, decide_true, decide_false, ne_eq, not_false_iff, and_self, or_true, true_or]
    exact ⟨_, rfl⟩
/-- the law's own choice -/
theorem some_gen (F : List D → List Int → Bn → RB) (hF : ∀ many, 1 ≤ many → many < 1073741824 → ∀ cs b, List.length cs ≤ 63 → ∃ v b', F [.int many] cs b = .val (.int v) b' ∧ 0 ≤ v ∧ v < many)
    (ds : List D) (hp : purs ds = true) (h1 : ds ≠ []) (h2 : ds.length < 1073741824) (cs : List Int) (b : Bn) (hc : cs.length ≤ 63) : ∃ d b', runB 2 2 (fsSome F) [.lst ds] cs b = .val d b' ∧ d ∈ ds := by
  have hl : 0 < ds.length := List.length_pos_iff.mpr h1
  obtain ⟨v, b', e, v0, v1⟩ := hF ds.length (by omega) (by omega) cs b hc
  obtain ⟨k, rfl⟩ := Int.eq_ofNat_of_zero_le v0
  have hk : k < ds.length := by omega
  have hg : ds[k]? = some (ds[k]) := List.getElem?_eq_getElem hk
  have hm : ds[k] ∈ ds := List.getElem_mem hk
  have hpk : (ds[k]).pur = true := by rw [purs_all, List.all_eq_true] at hp; exact hp _ hm
  refine ⟨ds[k], b', ?_, hm⟩
  have hr : rdB 0 [Ob.lst [D.int b.a, .int b.s, .int b.p, .ref 1], Ob.lst (cs.map D.int)] = some (b, 1, cs) := by simp [rdB]
  have hr' : rdB 0 [Ob.lst [D.int b'.a, .int b'.s, .int b'.p, .ref 1], Ob.lst (cs.map D.int)] = some (b', 1, cs) := by simp [rdB]
  unfold runB fsSome
  rw [if_pos (show [D.lst ds].length + 1 = 2 from rfl)]
  simp (decide := true) only [fVar, fC, fOp2, fUn, fNil, fCons, fTup, fLst, fTest, fAnd, fOr, fNot, fAndV, fOrV, fNotV, fIf, fCB, fNo, fSo, fSl, fTmp, fTmpB, fBM, fM1, fAsg, fDrop, fRet, fRetN, fIfS, fPar, fPar3, fAug, fAugL, fNext, fBreak, fCont, gN, gT, gConsF, gNilF, gS, fYes, fTru, fNewB, fIter, fRng1, fRng2, bnd_ok, tmpR, tmpB, lof, own, seqOf, srcOf, addD, subD, fdivD, modD, powD, mulD, negD, ltD, leD, gtD, geD, ixD, slD, lenD, absD, PF.intD, max2D, min2D, listD, tupleD, zipD, iaddD, appendD, extendD, popD, joinD, truD, tyD, isND, notND, D.isNon, List.getElem?_cons_zero, List.getElem?_cons_succ, List.set_cons_zero, List.set_cons_succ, List.length_cons, List.length_nil, List.cons_append, List.nil_append, List.append_nil, List.take_succ_cons, List.take_zero, List.take_nil, List.all_cons, List.all_nil, Bool.and_true, Bool.true_and, Bool.and_self, if_true, if_false, Bool.false_eq_true, Nat.reduceAdd, Nat.zero_add, Nat.reduceLeDiff, Nat.reduceLT, ite_true, ite_false, reduceIte, List.map_cons, List.map_nil, List.replicate, List.length_append, List.getElem?_nil, Option.isSome_some, beq_self_eq_true, fCallB, bagO, hr, dall, dcl, dref, D.nor, Int.ofNat_eq_natCast, e, setB, List.set_cons_zero, atI_nat, hg, toB, toP, hpk, hr']
end PF
namespace PF
open PySem PySem.Spec PyProof.Rows L2
/-! ### alike with itself -/
mutual
def dsz : D → Nat
  | .tup xs => dszs xs + 1
  | .lst xs => dszs xs + 1
  | _ => 1
def dszs : List D → Nat
  | [] => 0
  | x :: xs => dsz x + dszs xs
end
theorem dsz_pos : ∀ d, 1 ≤ dsz d := fun d => by cases d <;> simp [dsz]
theorem dszs_append (a b : List D) : dszs (a ++ b) = dszs a + dszs b := by
  induction a with
  | nil => simp [dszs]
  | cons x r ih => simp only [List.cons_append, dszs, ih]; omega
theorem dszs_len (a : List D) : a.length ≤ dszs a := by
  induction a with
  | nil => simp
  | cons x r ih => have := dsz_pos x; simp only [List.length_cons, dszs]; omega
def twin (l : List D) : List D := l.map fun d => .tup [d, d]
theorem zipT_self (l : List D) : zipT l l = twin l := by
  unfold zipT twin
  induction l with
  | nil => rfl
  | cons a r ih => simp only [List.zipWith_cons_cons, List.map_cons, ih]
theorem twin_len (l : List D) : (twin l).length = l.length := by unfold twin; rw [List.length_map]
theorem twin_app (a b : List D) : twin (a ++ b) = twin a ++ twin b := by unfold twin; rw [List.map_append]
abbrev eA (x : D) (i : Int) (o4 o5 : Option D) : En := [some x, some x, some (.ref 0), some (.int i), o4, o5]
theorem nors_app {a b : List D} : nors (a ++ b) = (nors a && nors b) := by rw [nors_all, nors_all, nors_all, List.all_append]
def subs : D → List D
  | .tup xs => xs
  | .lst xs => xs
  | _ => []
theorem dszs_subs (d : D) : dsz d = dszs (subs d) + 1 := by cases d <;> simp [dsz, subs, dszs]
theorem nors_subs {d : D} (h : d.nor = true) : nors (subs d) = true := by
  cases d <;> first | rfl | simpa [subs, D.nor] using h
theorem twin_bel {l : List D} (n : Nat) (h : nors l = true) : bels n (twin l) = true := by
  refine bels_nors n _ ?_
  rw [nors_all] at h ⊢
  unfold twin
  rw [List.all_map]
  rw [List.all_eq_true] at h ⊢
  intro d m
  have := h d m
  simp [D.nor, nors, this]
theorem q_ti : ("tuple" == "int") = false := rfl
theorem q_li : ("list" == "int") = false := rfl
theorem q_bi : ("bool" == "int") = false := rfl
theorem q_si : ("str" == "int") = false := rfl
theorem alike_step (x d : D) (done r : List D) (o4 o5 : Option D) (jk : Hs) (hd : d.nor = true) (hl : done.length + (r.length + 1) + (subs d).length ≤ 16777216) :
    ∃ jk', alB (eA x done.length o4 o5) (.lst (twin (done ++ d :: r)) :: jk) = .ok (.nx (eA x (done.length + 1) (some d) (some d))) (.lst (twin (done ++ d :: r ++ subs d)) :: jk') := by
  have hg : (twin (done ++ d :: r))[done.length]? = some (.tup [d, d]) := by
    unfold twin
    rw [List.getElem?_map, List.getElem?_append_right (by omega)]; simp
  have hs : (twin (done ++ d :: r)).length + (subs d).length ≤ 16777216 := by
    rw [twin_len, List.length_append, List.length_cons]; omega
  have hdr : deq d d = true := deq_refl d hd
  have hw : twin (done ++ d :: r ++ subs d) = twin (done ++ d :: r) ++ twin (subs d) := twin_app _ _
  have leaf : (∀ h, neD d d h = .ok (.bl false) h) → subs d = [] → (∃ t, (∀ h, tyN h d = some t) ∧ t ≠ "tuple" ∧ t ≠ "list") → ∃ jk', alB (eA x done.length o4 o5) (.lst (twin (done ++ d :: r)) :: jk) = .ok (.nx (eA x (done.length + 1) (some d) (some d))) (.lst (twin (done ++ d :: r ++ subs d)) :: jk') := by
    intro h1 h2 ⟨t, h3, n1, n2⟩
    refine ⟨jk, ?_⟩
    rw [h2, List.append_nil]
    have n1' : (t == "tuple") = false := by simpa using n1
    have n2' : (t == "list") = false := by simpa using n2
    unfold alB eA
    simp (decide := true) only [fVar, fC, fOp2, fUn, fNil, fCons, fTup, fLst, fTest, fAnd, fOr, fNot, fAndV, fOrV, fNotV, fIf, fCB, fNo, fSo, fSl, fTmp, fTmpB, fBM, fM1, fAsg, fDrop, fRet, fRetN, fIfS, fPar, fPar3, fAug, fAugL, fNext, fBreak, fCont, gN, gT, gConsF, gNilF, gS, fYes, fTru, fNewB, fIter, fRng1, fRng2, bnd_ok, tmpR, tmpB, lof, own, seqOf, srcOf, addD, subD, fdivD, modD, powD, mulD, negD, ltD, leD, gtD, geD, ixD, slD, lenD, absD, PF.intD, max2D, min2D, listD, tupleD, zipD, iaddD, appendD, extendD, popD, joinD, truD, tyD, isND, notND, D.isNon, List.getElem?_cons_zero, List.getElem?_cons_succ, List.set_cons_zero, List.set_cons_succ, List.length_cons, List.length_nil, List.cons_append, List.nil_append, List.append_nil, List.take_succ_cons, List.take_zero, List.take_nil, List.all_cons, List.all_nil, Bool.and_true, Bool.true_and, Bool.and_self, if_true, if_false, Bool.false_eq_true, Nat.reduceAdd, Nat.zero_add, Nat.reduceLeDiff, Nat.reduceLT, ite_true, ite_false, reduceIte, List.map_cons, List.map_nil, List.replicate, List.length_append, List.getElem?_nil, Option.isSome_some, beq_self_eq_true, fSeq, atI_nat, hg, fIsi, h1, h3, neD_bl, subT, List.any_cons, List.any_nil, n1', n2', q_ti, q_li, q_bi, q_si, Bool.or_false, Bool.false_or, Bool.and_false, Bool.not_true, Bool.not_false, beq_self_eq_true]
  have seq : ∀ c : String, c = "tuple" ∨ c = "list" → (∀ h, tyN h d = some c) → (∀ h, lenD [d] h = .ok (.int (subs d).length) h) → (∀ h, zipD [d, d] h = .ok (.ref h.length) (h ++ [.lst (twin (subs d))])) → ∃ jk', alB (eA x done.length o4 o5) (.lst (twin (done ++ d :: r)) :: jk) = .ok (.nx (eA x (done.length + 1) (some d) (some d))) (.lst (twin (done ++ d :: r ++ subs d)) :: jk') := by
    intro c hc h1 h2 h3
    refine ⟨jk ++ [.lst (twin (subs d))], ?_⟩
    have ht := fun (h : Hs) => tmp_new h (.lst (twin (subs d)))
    have hz : ∀ (h : Hs), (h ++ [Ob.lst (twin (subs d))])[h.length]? = some (.lst (twin (subs d))) := fun h => by simp
    have hz' : (.lst (twin (done ++ d :: r)) :: (jk ++ [Ob.lst (twin (subs d))]))[jk.length + 1]? = some (.lst (twin (subs d))) := by simp
    have hs' : (twin (done ++ d :: r)).length + (twin (subs d)).length ≤ 16777216 := by rw [twin_len (subs d)]; exact hs
    have ct : (c == "tuple" || c == "list") = true := by rcases hc with rfl | rfl <;> rfl
    have cb : (c == "bool") = false := by rcases hc with rfl | rfl <;> rfl
    have cs : (c == "str") = false := by rcases hc with rfl | rfl <;> rfl
    have ct' : (c == "tuple" || (c == "list" || false)) = true := by rcases hc with rfl | rfl <;> rfl
    unfold alB eA
    rw [hw]
    generalize hT : twin (done ++ d :: r) = T at *
    generalize hT' : twin (subs d) = T' at *
    have ht' := ht (.lst T :: jk)
    simp only [List.length_cons, List.cons_append] at ht'
    simp (decide := true) only [fVar, fC, fOp2, fNil, fCons, fTest, fOr, fIf, fCB, fTmp, fBM, fAsg, fDrop, fRet, fIfS, fAug, fNext, gN, gT, gConsF, gNilF, fTru, bnd_ok, lof, own, ixD, iaddD, extendD, truD, tyD, List.getElem?_cons_zero, List.getElem?_cons_succ, List.set_cons_zero, List.set_cons_succ, List.length_cons, List.length_nil, List.cons_append, List.nil_append, Bool.and_true, Bool.true_and, Bool.and_self, if_true, if_false, Bool.false_eq_true, Nat.reduceAdd, Nat.zero_add, ite_true, ite_false, reduceIte, fSeq, atI_nat, hg, fIsi, h1, h2, h3, ht', hs', neD_bl, neD_int, subT, List.any_cons, List.any_nil, cb, cs, ct, ct', q_ti, q_li, q_bi, q_si, Bool.or_false, Bool.false_or, Bool.and_false, Bool.not_true, Bool.not_false, beq_self_eq_true, hz', Option.isSome_some]
  cases d with
  | non => exact leaf (fun h => by rw [neD_nor rfl rfl (by decide) (by decide), hdr]; rfl) rfl ⟨_, fun h => rfl, by decide, by decide⟩
  | bl b => exact leaf (fun h => by rw [neD_nor rfl rfl (by simp [dpt]) (by simp [dpt]), hdr]; rfl) rfl ⟨_, fun h => rfl, by decide, by decide⟩
  | int b => exact leaf (fun h => by rw [neD_nor rfl rfl (by simp [dpt]) (by simp [dpt]), hdr]; rfl) rfl ⟨_, fun h => rfl, by decide, by decide⟩
  | str b => exact leaf (fun h => by rw [neD_nor rfl rfl (by simp [dpt]) (by simp [dpt]), hdr]; rfl) rfl ⟨_, fun h => rfl, by decide, by decide⟩
  | tup xs => exact seq _ (.inl rfl) (fun h => rfl) (fun h => rfl) (fun h => by rw [← zipT_self]; rfl)
  | lst xs => exact seq _ (.inr rfl) (fun h => rfl) (fun h => rfl) (fun h => by rw [← zipT_self]; rfl)
  | ref n => cases hd
  | scr n => cases hd
  | dct ks vs => cases hd
theorem alike_loop (x : D) : ∀ (fuel : Nat) (done rest : List D) (o4 o5 : Option D) (jk : Hs), nors rest = true → done.length + dszs rest ≤ 16777216 → dszs rest < fuel →
    ∃ e h, whileN alT alB fuel (eA x done.length o4 o5) (.lst (twin (done ++ rest)) :: jk) = .ok (.nx e) h
  | 0, _, _, _, _, _, _, _, hf => by omega
  | fuel + 1, done, [], o4, o5, jk, _, _, _ => by
    unfold whileN alT eA
    simp (decide := true) only [fVar, fC, fOp2, fUn, fNil, fCons, fTup, fLst, fTest, fAnd, fOr, fNot, fAndV, fOrV, fNotV, fIf, fCB, fNo, fSo, fSl, fTmp, fTmpB, fBM, fM1, fAsg, fDrop, fRet, fRetN, fIfS, fPar, fPar3, fAug, fAugL, fNext, fBreak, fCont, gN, gT, gConsF, gNilF, gS, fYes, fTru, fNewB, fIter, fRng1, fRng2, bnd_ok, tmpR, tmpB, lof, own, seqOf, srcOf, addD, subD, fdivD, modD, powD, mulD, negD, ltD, leD, gtD, geD, ixD, slD, lenD, absD, PF.intD, max2D, min2D, listD, tupleD, zipD, iaddD, appendD, extendD, popD, joinD, truD, tyD, isND, notND, D.isNon, List.getElem?_cons_zero, List.getElem?_cons_succ, List.set_cons_zero, List.set_cons_succ, List.length_cons, List.length_nil, List.cons_append, List.nil_append, List.append_nil, List.take_succ_cons, List.take_zero, List.take_nil, List.all_cons, List.all_nil, Bool.and_true, Bool.true_and, Bool.and_self, if_true, if_false, Bool.false_eq_true, Nat.reduceAdd, Nat.zero_add, Nat.reduceLeDiff, Nat.reduceLT, ite_true, ite_false, reduceIte, List.map_cons, List.map_nil, List.replicate, List.length_append, List.getElem?_nil, Option.isSome_some, beq_self_eq_true, twin_len, List.append_nil, Int.lt_irrefl, decide_false]
    exact ⟨_, _, rfl⟩
  | fuel + 1, done, d :: r, o4, o5, jk, hn, hl, hf => by
    rw [nors_cons, Bool.and_eq_true] at hn
    have e1 : dszs (d :: r) = dsz d + dszs r := by rw [dszs]
    have e2 := dszs_subs d
    have e3 := dszs_len r
    have e4 := dszs_len (subs d)
    rw [e1] at hl hf
    obtain ⟨jk', q⟩ := alike_step x d done r o4 o5 jk hn.1 (by omega)
    obtain ⟨e, h, z⟩ := alike_loop x fuel (done ++ [d]) (r ++ subs d) (some d) (some d) jk' (by rw [nors_app, hn.2, nors_subs hn.1]; rfl) (by rw [dszs_append, List.length_append]; simp only [List.length_cons, List.length_nil]; omega) (by rw [dszs_append]; omega)
    refine ⟨e, h, ?_⟩
    have hlt : ((done.length : Int) < ((twin (done ++ d :: r)).length : Int)) = True := by
      simp only [twin_len, List.length_append, List.length_cons, eq_iff_iff, iff_true]; omega
    have e5 : done ++ [d] ++ (r ++ subs d) = done ++ d :: r ++ subs d := by simp
    have e6 : ((done ++ [d]).length : Int) = (done.length : Int) + 1 := by simp
    rw [e5, e6] at z
    unfold whileN
    have hc : alT (eA x done.length o4 o5) (.lst (twin (done ++ d :: r)) :: jk) = .ok true (.lst (twin (done ++ d :: r)) :: jk) := by
      unfold alT eA
      simp (decide := true) only [fVar, fC, fOp2, fUn, fNil, fCons, fTup, fLst, fTest, fAnd, fOr, fNot, fAndV, fOrV, fNotV, fIf, fCB, fNo, fSo, fSl, fTmp, fTmpB, fBM, fM1, fAsg, fDrop, fRet, fRetN, fIfS, fPar, fPar3, fAug, fAugL, fNext, fBreak, fCont, gN, gT, gConsF, gNilF, gS, fYes, fTru, fNewB, fIter, fRng1, fRng2, bnd_ok, tmpR, tmpB, lof, own, seqOf, srcOf, addD, subD, fdivD, modD, powD, mulD, negD, ltD, leD, gtD, geD, ixD, slD, lenD, absD, PF.intD, max2D, min2D, listD, tupleD, zipD, iaddD, appendD, extendD, popD, joinD, truD, tyD, isND, notND, D.isNon, List.getElem?_cons_zero, List.getElem?_cons_succ, List.set_cons_zero, List.set_cons_succ, List.length_cons, List.length_nil, List.cons_append, List.nil_append, List.append_nil, List.take_succ_cons, List.take_zero, List.take_nil, List.all_cons, List.all_nil, Bool.and_true, Bool.true_and, Bool.and_self, if_true, if_false, Bool.false_eq_true, Nat.reduceAdd, Nat.zero_add, Nat.reduceLeDiff, Nat.reduceLT, ite_true, ite_false, reduceIte, List.map_cons, List.map_nil, List.replicate, List.length_append, List.getElem?_nil, Option.isSome_some, beq_self_eq_true, hlt, decide_true]
    rw [hc]
    simp only [bnd_ok, if_true]
    rw [q]
    exact z
theorem alike_gen (x : D) (hn : x.nor = true) (hs : dsz x ≤ 16777216) : noE (runP 2 6 fsAlike [x, x]) = .val (.bl true) := by
  have e0 : dszs [x] = dsz x := by simp [dszs]
  obtain ⟨e, h, z⟩ := alike_loop x (dsz x + 1) [] [x] none none [] (by rw [nors_cons, hn]; rfl) (by rw [e0]; simpa using hs) (by rw [e0]; omega)
  have w := fWhile_eq z (by exact fun z => z)
  unfold runP fsAlike
  rw [if_pos (show [x, x].length = 2 from rfl)]
  show noE (match fSeq _ _ [some x, some x, none, none, none, none] [] with
    | .ok (.nx _) _ => .val .non
    | .ok (.rt d) h => toP 0 d h
    | .ok _ _ => .no
    | .er e _ _ => .er e
    | .no => .no) = _
  simp (decide := true) only [fVar, fC, fOp2, fUn, fNil, fCons, fTup, fLst, fTest, fAnd, fOr, fNot, fAndV, fOrV, fNotV, fIf, fCB, fNo, fSo, fSl, fTmp, fTmpB, fBM, fM1, fAsg, fDrop, fRet, fRetN, fIfS, fPar, fPar3, fAug, fAugL, fNext, fBreak, fCont, gN, gT, gConsF, gNilF, gS, fYes, fTru, fNewB, fIter, fRng1, fRng2, bnd_ok, tmpR, tmpB, lof, own, seqOf, srcOf, addD, subD, fdivD, modD, powD, mulD, negD, ltD, leD, gtD, geD, ixD, slD, lenD, absD, PF.intD, max2D, min2D, listD, tupleD, zipD, iaddD, appendD, extendD, popD, joinD, truD, tyD, isND, notND, D.isNon, List.getElem?_cons_zero, List.getElem?_cons_succ, List.set_cons_zero, List.set_cons_succ, List.length_cons, List.length_nil, List.cons_append, List.nil_append, List.append_nil, List.take_succ_cons, List.take_zero, List.take_nil, List.all_cons, List.all_nil, Bool.and_true, Bool.true_and, Bool.and_self, if_true, if_false, Bool.false_eq_true, Nat.reduceAdd, Nat.zero_add, Nat.reduceLeDiff, Nat.reduceLT, ite_true, ite_false, reduceIte, List.map_cons, List.map_nil, List.replicate, List.length_append, List.getElem?_nil, Option.isSome_some, beq_self_eq_true, fSeq]
  have w' : fWhile alT alB [some x, some x, some (D.ref 0), some (D.int 0), none, none] [Ob.lst [D.tup [x, x]]] = .ok (.nx e) h := w
  rw [w']
  rfl
/-! ### the drawn numbers' start -/
theorem good_own {ds : List D} {h : Hs} {n : Nat} (e : h[n]? = some (.lst ds)) : (Src.mk ds [(n, ds)]).good h := fun p m => by
  simp at m; subst m; exact e
theorem bag_gen (ns : List Int) (hl : ns.length ≤ 63) : ∃ h n m, fsBag (([D.scr ns].map some) ++ List.replicate (2 - 1) none) [] = .ok (.rt (.ref n)) h ∧ h[n]? = some (bagO ⟨0, 1234567891, 0⟩ m) ∧ h[m]? = some (.lst ((ns.map fun i => if i < 0 then -i else i).map D.int)) := by
  have hcut : cutL ns none (some 63) = ns := by
    rw [show (63 : Int) = ((63 : Nat) : Int) from rfl, cut_to, List.take_of_length_le hl]
  have hsl : fIter (fSl slD (fVar 0) fNo (fSo (fC (.int 63)))) [some (.scr ns), none] [] = .ok ⟨ns.map D.int, [(0, ns.map D.int)]⟩ [.lst (ns.map D.int)] := by
    simp (decide := true) only [fVar, fC, fOp2, fUn, fNil, fCons, fTup, fLst, fTest, fAnd, fOr, fNot, fAndV, fOrV, fNotV, fIf, fCB, fNo, fSo, fSl, fTmp, fTmpB, fBM, fM1, fAsg, fDrop, fRet, fRetN, fIfS, fPar, fPar3, fAug, fAugL, fNext, fBreak, fCont, gN, gT, gConsF, gNilF, gS, fYes, fTru, fNewB, fIter, fRng1, fRng2, bnd_ok, tmpR, tmpB, lof, own, seqOf, srcOf, addD, subD, fdivD, modD, powD, mulD, negD, ltD, leD, gtD, geD, ixD, slD, lenD, absD, PF.intD, max2D, min2D, listD, tupleD, zipD, iaddD, appendD, extendD, popD, joinD, truD, tyD, isND, notND, D.isNon, List.getElem?_cons_zero, List.getElem?_cons_succ, List.set_cons_zero, List.set_cons_succ, List.length_cons, List.length_nil, List.cons_append, List.nil_append, List.append_nil, List.take_succ_cons, List.take_zero, List.take_nil, List.all_cons, List.all_nil, Bool.and_true, Bool.true_and, Bool.and_self, if_true, if_false, Bool.false_eq_true, Nat.reduceAdd, Nat.zero_add, Nat.reduceLeDiff, Nat.reduceLT, ite_true, ite_false, reduceIte, List.map_cons, List.map_nil, List.replicate, List.length_append, List.getElem?_nil, Option.isSome_some, beq_self_eq_true, hcut]
  obtain ⟨h', z1, z2, z3⟩ := lc_gives (fg := gN 1) (fc := fYes) (fe := fCB absD (fCons (fVar 1) fNil)) (s := ⟨ns.map D.int, [(0, ns.map D.int)]⟩) (n := 1) (env := [some (.scr ns), none]) (fun h => h[0]? = some (.lst (ns.map D.int)) ∧ h.length = 2) (fun h i => good_own i.1)
    (fun d => match d with | .int i => some (.int (if i < 0 then -i else i)) | _ => none) (ns.map D.int) [.lst (ns.map D.int), .lst []] [] ⟨rfl, rfl⟩ rfl (by rw [List.length_map]; simp only [List.length_nil]; omega) (fun d m h acc i hn => by
      obtain ⟨k, _, rfl⟩ := List.mem_map.mp m
      refine ⟨_, h, h, rfl, rfl, h, ?_, hn, ?_, ?_⟩
      · simp (decide := true) only [fVar, fC, fOp2, fUn, fNil, fCons, fTup, fLst, fTest, fAnd, fOr, fNot, fAndV, fOrV, fNotV, fIf, fCB, fNo, fSo, fSl, fTmp, fTmpB, fBM, fM1, fAsg, fDrop, fRet, fRetN, fIfS, fPar, fPar3, fAug, fAugL, fNext, fBreak, fCont, gN, gT, gConsF, gNilF, gS, fYes, fTru, fNewB, fIter, fRng1, fRng2, bnd_ok, tmpR, tmpB, lof, own, seqOf, srcOf, addD, subD, fdivD, modD, powD, mulD, negD, ltD, leD, gtD, geD, ixD, slD, lenD, absD, PF.intD, max2D, min2D, listD, tupleD, zipD, iaddD, appendD, extendD, popD, joinD, truD, tyD, isND, notND, D.isNon, List.getElem?_cons_zero, List.getElem?_cons_succ, List.set_cons_zero, List.set_cons_succ, List.length_cons, List.length_nil, List.cons_append, List.nil_append, List.append_nil, List.take_succ_cons, List.take_zero, List.take_nil, List.all_cons, List.all_nil, Bool.and_true, Bool.true_and, Bool.and_self, if_true, if_false, Bool.false_eq_true, Nat.reduceAdd, Nat.zero_add, Nat.reduceLeDiff, Nat.reduceLT, ite_true, ite_false, reduceIte, List.map_cons, List.map_nil, List.replicate, List.length_append, List.getElem?_nil, Option.isSome_some, beq_self_eq_true]
      · rw [List.getElem?_set_ne (by decide)]; exact i.1
      · rw [List.length_set]; exact i.2)
  have z4 : ∀ ns : List Int, (ns.map D.int).filterMap (fun d => match d with | .int i => some (D.int (if i < 0 then -i else i)) | _ => none) = (ns.map fun i => if i < 0 then -i else i).map D.int := by
    intro ns
    clear z2 z3 z1 hsl hcut hl h'
    induction ns with
    | nil => rfl
    | cons a r ih => simp only [List.map_cons, List.filterMap_cons, ih]
  rw [z4, List.nil_append] at z3
  have z5 : fLc (fIter (fSl slD (fVar 0) fNo (fSo (fC (.int 63))))) (gN 1) fYes (fCB absD (fCons (fVar 1) fNil)) [1] [some (.scr ns), none] [] = .ok (.ref 1) h' := by
    unfold fLc
    rw [hsl]
    simp only [bnd_ok, wipeE, List.set_cons_succ, List.set_cons_zero]
    show (lcN _ _ _ _ 1 _ _ [Ob.lst (ns.map D.int), Ob.lst []]).bnd _ = _
    rw [z1]
    rfl
  refine ⟨h' ++ [bagO ⟨0, 1234567891, 0⟩ 1], 2, 1, ?_, ?_, ?_⟩
  · unfold fsBag
    show fRet _ [some (.scr ns), none] [] = _
    simp (decide := true) only [fRet, fLst, fCons, fC, fNil, bnd_ok, z5, List.length_cons, List.length_nil, z2.2, if_true, bagO]
  · rw [List.getElem?_append_right (by rw [z2.2]; decide), z2.2]; rfl
  · rw [List.getElem?_append_left (by rw [z2.2]; decide)]; exact z3
end PF
namespace PF
open PySem PySem.Spec PyProof.Rows L2
/-- a loop by what holds before each rest of its items -/
theorem for_rel {fg : FG} {fb : FS} {s : Src} (J : List D → En → Hs → Prop) (hg : ∀ l e h, J l e h → s.good h) (hs : ∀ d r e h, J (d :: r) e h → ∃ e1 h1, fg d e h = .ok e1 h1 ∧ ∃ e2 h2, (fb e1 h1 = .ok (.nx e2) h2 ∨ fb e1 h1 = .ok (.ct e2) h2) ∧ J r e2 h2) :
    ∀ (l : List D) (e : En) (h : Hs), J l e h → ∃ e' h', forN fg fb s l e h = .ok (.nx e') h' ∧ J [] e' h'
  | [], e, h, p => by
    unfold forN
    rw [if_pos (hg _ e h p)]
    exact ⟨e, h, rfl, p⟩
  | d :: r, e, h, p => by
    unfold forN
    rw [if_pos (hg _ e h p)]
    obtain ⟨e1, h1, q1, e2, h2, q2, p2⟩ := hs d r e h p
    rw [q1]
    simp only [bnd_ok]
    rcases q2 with q2 | q2
    · rw [q2]
      simp only [bnd_ok]
      exact for_rel J hg hs r e2 h2 p2
    · rw [q2]
      simp only [bnd_ok]
      exact for_rel J hg hs r e2 h2 p2
/-- a comprehension by what holds before each rest of its items -/
theorem lc_rel {fg : FG} {fc : FT} {fe : FE} {s : Src} {n : Nat} {env : En} (J : List D → List D → Hs → Prop) (hg : ∀ l acc h, J l acc h → s.good h ∧ h[n]? = some (.lst acc) ∧ acc.length + l.length ≤ 16777216)
    (hs : ∀ d r acc h, J (d :: r) acc h → ∃ e h1, fg d env h = .ok e h1 ∧ ∃ b h2, fc e h1 = .ok b h2 ∧ (b = false → J r acc h2) ∧ (b = true → ∃ y h3, fe e h2 = .ok y h3 ∧ h3[n]? = some (.lst acc) ∧ J r (acc ++ [y]) (h3.set n (.lst (acc ++ [y]))))) :
    ∀ (l : List D) (acc : List D) (h : Hs), J l acc h → ∃ acc' h', lcN fg fc fe s n env l h = .ok () h' ∧ J [] acc' h'
  | [], acc, h, p => by
    unfold lcN
    rw [if_pos (hg _ _ h p).1]
    exact ⟨acc, h, rfl, p⟩
  | d :: r, acc, h, p => by
    obtain ⟨g1, g2, g3⟩ := hg _ _ h p
    simp only [List.length_cons] at g3
    unfold lcN
    rw [if_pos g1]
    obtain ⟨e, h1, q1, b, h2, q2, q3, q4⟩ := hs d r acc h p
    rw [q1]
    simp only [bnd_ok]
    rw [q2]
    simp only [bnd_ok]
    cases b with
    | false =>
      simp only [Bool.false_eq_true, if_false]
      exact lc_rel J hg hs r acc h2 (q3 rfl)
    | true =>
      obtain ⟨y, h3, z1, z2, z3⟩ := q4 rfl
      simp only [if_true]
      rw [z1]
      simp only [bnd_ok]
      rw [z2]
      simp only []
      rw [if_pos (by omega)]
      exact lc_rel J hg hs r (acc ++ [y]) _ z3
theorem tmp_pur {h h' k : Hs} {d : D} (hp : d.pur = true) (e : h'.take h.length = k) (hb : k.all (belO h.length) = true) : tmpR h (.ok d h') = .ok d k := by
  unfold tmpR
  simp only [e, hb, hp, if_true]
theorem tmpB_cut {h h' k : Hs} {b : Bool} (e : h'.take h.length = k) (hb : k.all (belO h.length) = true) : tmpB h (.ok b h') = .ok b k := by
  unfold tmpB
  simp only [e, hb, if_true]
/-- the bag and its cells stand first -/
abbrev BH (cs : List Int) (b : Bn) (rest : Hs) : Hs := .lst (cs.map D.int) :: bagO b 0 :: rest
theorem callB_ev {F : List D → List Int → Bn → RB} {fa : FA} {env : En} {cs : List Int} {b b' : Bn} {rest rest' : Hs} {r ds : List D} {d : D} (h1 : fa env (BH cs b rest) = .ok (.ref 1 :: r) (BH cs b rest')) (h2 : dall (dcl (hid :: hid :: rest')) r = some ds)
    (h3 : F ds cs b = .val d b') : fCallB F fa env (BH cs b rest) = .ok d (BH cs b' rest') := by
  have hr : rdB 1 (BH cs b rest') = some (b, 0, cs) := by simp [rdB, bagO]
  unfold fCallB
  rw [h1]
  simp only [bnd_ok]
  rw [hr]
  simp only []
  rw [if_pos (by decide)]
  have hm : mask (BH cs b rest') 1 0 = hid :: hid :: rest' := rfl
  rw [hm, h2]
  simp only []
  rw [h3]
  simp only [setB, BH, List.set_cons_succ, List.set_cons_zero]
theorem belBH (n : Nat) (hn : 2 ≤ n) (cs : List Int) (b : Bn) : belO n (.lst (cs.map D.int)) = true ∧ belO n (bagO b 0) = true := by
  refine ⟨bels_int n cs, ?_⟩
  have : decide (0 < n) = true := by simp; omega
  simp [bagO, belO, bels, bel]; omega
theorem dall_nor (h : Hs) : ∀ (r : List D), nors r = true → dall (dcl h) r = some r
  | [], _ => rfl
  | d :: r, hn => by
    rw [nors_cons, Bool.and_eq_true] at hn
    unfold dall
    rw [dall_nor h r hn.2, dcl_nor hn.1]
/-! ### texts -/
theorem joinL_nil (l : List (List Nat)) : joinL [] l = l.flatten := by
  cases l with
  | nil => rfl
  | cons x r => simp [joinL]
theorem tmpB_id (h : Hs) (b : Bool) : tmpB h (.ok b h) = .ok b h := by
  unfold tmpB
  simp only [List.take_length]
  split <;> rfl
theorem tmpR_id {h : Hs} {d : D} (hp : d.pur = true) : tmpR h (.ok d h) = .ok d h := by
  unfold tmpR
  simp only [List.take_length, hp, if_true]
  split <;> rfl
theorem call_val {F : List D → RP} {fa : FA} {env : En} {h h' : Hs} {ds ds' : List D} {d : D} (h1 : fa env h = .ok ds h') (h2 : dall (dcl h') ds = some ds') (h3 : F ds' = .val d) : fCall F fa env h = .ok d h' := by
  unfold fCall; rw [h1]; simp only [bnd_ok]; rw [h2]; simp only []; rw [h3]
theorem call_obj {F : List D → RP} {fa : FA} {env : En} {h h' : Hs} {ds ds' : List D} {o : Ob} (h1 : fa env h = .ok ds h') (h2 : dall (dcl h') ds = some ds') (h3 : F ds' = .obj o) : fCall F fa env h = .ok (.ref h'.length) (h' ++ [o]) := by
  unfold fCall; rw [h1]; simp only [bnd_ok]; rw [h2]; simp only []; rw [h3]
theorem good_nil' (ds : List D) (h : Hs) : (Src.mk ds []).good h := good_nil ds h
/-! ### ranges -/
theorem mem_range {lo : Int} {n : Nat} {d : D} (m : d ∈ rangeL lo n) : ∃ i : Nat, i < n ∧ d = .int (lo + i) := by
  unfold rangeL at m
  obtain ⟨i, h1, rfl⟩ := List.mem_map.mp m
  exact ⟨i, List.mem_range.mp h1, rfl⟩
theorem range_len (lo : Int) (n : Nat) : (rangeL lo n).length = n := by unfold rangeL; simp
theorem dall_norK (h : Hs) (k : Nat) : ∀ (r : List D), nors r = true → dall (dref h k) r = some r
  | [], _ => rfl
  | d :: r, hn => by
    rw [nors_cons, Bool.and_eq_true] at hn
    unfold dall
    rw [dall_norK h k r hn.2]
    cases k <;> simp [dref, hn.1]
theorem dref_ref {h : Hs} {n : Nat} {a : List D} (e : h[n]? = some (.lst a)) (hn : nors a = true) : dref h 6 (.ref n) = some (.lst a) := by
  unfold dref
  rw [if_neg (by simp [D.nor])]
  simp only [e, hn, if_true]
theorem dcl_ref {h : Hs} {n : Nat} {a : List D} (e : h[n]? = some (.lst a)) (hn : nors a = true) : dcl h (.ref n) = some (.lst a) := by
  unfold dcl
  simp only [e]
  exact dref_ref e hn
theorem eqD_ref {h : Hs} {n m : Nat} {a b : List D} (e : h[n]? = some (.lst a)) (e' : h[m]? = some (.lst b)) (hn : nors a = true) (hm : nors b = true) (da : dpts a ≤ 59) (db : dpts b ≤ 59) : eqD (.ref n) (.ref m) h = .ok (.bl (deqs a b)) h := by
  unfold eqD
  rw [dref_ref e hn, dref_ref e' hm]
  simp only []
  rw [if_pos ⟨by rw [dpt]; omega, by rw [dpt]; omega⟩, deq]
theorem deqs_nil (l : List D) : deqs l [] = l.isEmpty := by cases l <;> simp [deqs]
theorem dpts_zero : ∀ {l : List D}, (∀ d ∈ l, dpt d = 0) → dpts l = 0
  | [], _ => rfl
  | d :: r, h => by
    rw [dpts, dpts_zero fun d m => h d (List.mem_cons_of_mem _ m), h d List.mem_cons_self]; rfl
theorem all_BH (n : Nat) (hn : 2 ≤ n) (cs : List Int) (b : Bn) (rest : Hs) (h : rest.all (belO n) = true) : (BH cs b rest).all (belO n) = true := by
  simp only [BH, List.all_cons, (belBH n hn cs b).1, (belBH n hn cs b).2, h, Bool.and_self]
theorem strs_bel (n : Nat) (l : List (List Nat)) : bels n (l.map D.str) = true := bels_nors n _ (nors_of_purs _ (purs_map_str' l))
theorem tmp_BH {cs : List Int} {b b' : Bn} {d : D} (hp : d.pur = true) (junk : Hs) : tmpR (BH cs b []) (.ok d (BH cs b' junk)) = .ok d (BH cs b' []) := tmp_pur hp rfl (all_BH 2 (Nat.le_refl 2) cs b' [] rfl)
theorem seqE {a b : FS} {env e : En} {h h1 : Hs} (q : a env h = .ok (.nx e) h1) : fSeq a b env h = b e h1 := by
  unfold fSeq; rw [q]; rfl
theorem seqR {a b : FS} {env : En} {d : D} {h h1 : Hs} (q : a env h = .ok (.rt d) h1) : fSeq a b env h = .ok (.rt d) h1 := by
  unfold fSeq; rw [q]; rfl
theorem forE {fi : FI} {fg : FG} {fb : FS} {env e : En} {h h0 h1 : Hs} {s : Src} (q : fi env h = .ok s h0) (k : forN fg fb s s.items env h0 = .ok (.nx e) h1) : fFor fi fg fb env h = .ok (.nx e) h1 := by
  unfold fFor; rw [q]; exact k
theorem ifF {fc : FT} {a b : FS} {env : En} {h h1 : Hs} (q : fc env h = .ok false h1) : fIfS fc a b env h = b env h1 := by
  unfold fIfS; rw [q]; rfl
theorem ifT {fc : FT} {a b : FS} {env : En} {h h1 : Hs} (q : fc env h = .ok true h1) : fIfS fc a b env h = a env h1 := by
  unfold fIfS; rw [q]; rfl
end PF
namespace PF
open PySem PySem.Spec PyProof.Rows L2
/-! ### enumerate and zip as what is walked -/
def enumL : Nat → List D → List D
  | _, [] => []
  | k, d :: r => .tup [.int (k : Nat), d] :: enumL (k + 1) r
theorem enumL_len : ∀ (l : List D) (k : Nat), (enumL k l).length = l.length
  | [], _ => rfl
  | d :: r, k => by simp only [enumL, List.length_cons, enumL_len r]
theorem enumL_get : ∀ (l : List D) (k i : Nat), (enumL k l)[i]? = (l[i]?).map fun d => D.tup [.int ((k + i : Nat)), d]
  | [], k, i => by simp [enumL]
  | d :: r, k, 0 => by simp [enumL]
  | d :: r, k, i + 1 => by
    simp only [enumL, List.getElem?_cons_succ, enumL_get r]
    rw [show k + 1 + i = k + (i + 1) by omega]
def bs (h : Hs) (x : D) : Option Src := match x with
  | .tup ds => some ⟨ds, []⟩
  | .lst ds => some ⟨ds, []⟩
  | .ref n => match h[n]? with
    | some (.lst ds) => some ⟨ds, [(n, ds)]⟩
    | _ => none
  | _ => none
def Vw (K : PySem.W.Frag) (H0 : Hp) (sp : List Addr) (Sq : Hp → List V → Prop) (s : Src) (ι0 : List Addr) (Hs0 : Hp) : Prop := ∀ (ι : List Addr) (h : Hs) (H : Hp), Rel K H0 sp ι h H → Stp ι0 Hs0 ι H → s.good h → ∃ vs, Sq H vs ∧ VRs K ι H s.items vs
section
variable {K : PySem.W.Frag} {H0 : Hp} {sp ι : List Addr} {h : Hs} {H : Hp}
theorem vw_of {x : D} {v : V} {s : Src} (R : Rel K H0 sp ι h H) (q : VR K ι H x v) (e : bs h x = some s) : ∃ a, v = .ref a ∧ (((∃ xs, SqL K H a xs) ∧ Vw K H0 sp (fun H xs => SqL K H a xs) s ι H) ∨ ((∃ xs, SqT K H a xs) ∧ Vw K H0 sp (fun H xs => SqT K H a xs) s ι H)) := by
  cases x with
  | tup ds =>
    cases e
    obtain ⟨a, vs, rfl, p, r⟩ := q.tupE
    exact ⟨a, rfl, .inr ⟨⟨vs, p⟩, fun ι1 h1 H1 R1 S1 _ => ⟨vs, sqT_step S1 p, VRs.mono S1 _ _ r⟩⟩⟩
  | lst ds =>
    cases e
    unfold VR at q
    obtain ⟨a, vs, rfl, p, na, r⟩ := q
    exact ⟨a, rfl, .inl ⟨⟨vs, SqL.of p⟩, fun ι1 h1 H1 R1 S1 _ => ⟨vs, SqL.of (S1.keep _ _ p na).1, VRs.mono S1 _ _ r⟩⟩⟩
  | ref n =>
    unfold bs at e
    cases hn : h[n]? with
    | none => simp only [hn] at e; cases e
    | some o =>
      simp only [hn] at e
      cases o with
      | dct b => cases e
      | tb => cases e
      | dtt b => cases e
      | lst ds =>
        cases e
        unfold VR at q
        obtain ⟨a, rfl, e2⟩ := q
        obtain ⟨b, e3, vs, p, r⟩ := R.ob _ _ hn
        rw [e2] at e3; cases e3
        refine ⟨a, rfl, .inl ⟨⟨vs, SqL.of p⟩, fun ι1 h1 H1 R1 S1 good => ?_⟩⟩
        obtain ⟨b, e4, vs', p1, r1⟩ := R1.ob _ _ (good (n, ds) (by simp))
        rw [S1.pre _ _ e2] at e4; cases e4
        exact ⟨vs', SqL.of p1, r1⟩
  | _ => cases e
theorem wk_enum {a : Addr} {s : Src} (q : ((∃ xs, SqL K H a xs) ∧ Vw K H0 sp (fun H xs => SqL K H a xs) s ι H)) : Wk K H0 sp (Ite K a) ⟨enumL 0 s.items, s.gd⟩ ι H := by
  intro ι1 h1 H1 R1 S1 good
  obtain ⟨vs, p1, r1⟩ := q.2 ι1 h1 H1 R1 S1 good
  have hl := r1.length
  refine ⟨fun i hi => ?_, ⟨vs, p1, by rw [enumL_len]; exact Nat.le_of_eq hl.symm⟩⟩
  rw [enumL_len] at hi
  refine ⟨⟨vs, vs[i]'(by rw [← hl]; exact hi), p1, by simp⟩, fun x H' y => ?_⟩
  obtain ⟨T, xv, rfl, hT, rfl, y2⟩ := y
  obtain ⟨d, h2, q2⟩ := r1.back (y2 vs p1)
  obtain ⟨x1, x2⟩ := newT (p := T) R1 (VRs.cons (d := D.int (i : Nat)) (v := V.int (i : Nat)) rfl (.one q2)) hT
  exact ⟨_, by rw [enumL_get, h2, Nat.zero_add]; rfl, x1, x2⟩
theorem wk_enumT {a : Addr} {s : Src} (q : ((∃ xs, SqT K H a xs) ∧ Vw K H0 sp (fun H xs => SqT K H a xs) s ι H)) : Wk K H0 sp (EN.IteT K a) ⟨enumL 0 s.items, s.gd⟩ ι H := by
  intro ι1 h1 H1 R1 S1 good
  obtain ⟨vs, p1, r1⟩ := q.2 ι1 h1 H1 R1 S1 good
  have hl := r1.length
  refine ⟨fun i hi => ?_, ⟨vs, p1, by rw [enumL_len]; exact hl.symm⟩⟩
  rw [enumL_len] at hi
  refine ⟨⟨vs, vs[i]'(by rw [← hl]; exact hi), p1, by simp⟩, fun x H' y => ?_⟩
  obtain ⟨T, xv, rfl, hT, rfl, y2⟩ := y
  obtain ⟨d, h2, q2⟩ := r1.back (y2 vs p1)
  obtain ⟨x1, x2⟩ := newT (p := T) R1 (VRs.cons (d := D.int (i : Nat)) (v := V.int (i : Nat)) rfl (.one q2)) hT
  exact ⟨_, by rw [enumL_get, h2, Nat.zero_add]; rfl, x1, x2⟩
theorem zipT_len (a b : List D) : (zipT a b).length = min a.length b.length := by unfold zipT; rw [List.length_zipWith]
theorem zip_item {a b : List D} {i : Nat} {x y : D} (h1 : a[i]? = some x) (h2 : b[i]? = some y) : (zipT a b)[i]? = some (.tup [x, y]) := by
  unfold zipT; rw [List.getElem?_zipWith, h1, h2]
theorem good_app {s t : Src} {l : List D} {h : Hs} (g : (Src.mk l (s.gd ++ t.gd)).good h) : s.good h ∧ t.good h := ⟨fun p m => g p (List.mem_append_left _ m), fun p m => g p (List.mem_append_right _ m)⟩
theorem wk_zip {a b : Addr} {s t : Src} (q : Vw K H0 sp (fun H xs => SqL K H a xs) s ι H) (q' : Vw K H0 sp (fun H xs => SqL K H b xs) t ι H) : Wk K H0 sp (Itz K a b) ⟨zipT s.items t.items, s.gd ++ t.gd⟩ ι H := by
  intro ι1 h1 H1 R1 S1 good
  obtain ⟨g1, g2⟩ := good_app good
  obtain ⟨vs, p1, r1⟩ := q ι1 h1 H1 R1 S1 g1
  obtain ⟨us, p2, r2⟩ := q' ι1 h1 H1 R1 S1 g2
  have l1 := r1.length
  have l2 := r2.length
  refine ⟨fun i hi => ?_, ⟨vs, us, p1, p2, by rw [zipT_len]; omega⟩⟩
  rw [zipT_len] at hi
  refine ⟨⟨vs, us, vs[i]'(by omega), us[i]'(by omega), p1, p2, by simp, by simp⟩, fun x H' y => ?_⟩
  obtain ⟨T, xv, yv, rfl, hT, rfl, y1, y2⟩ := y
  obtain ⟨d, h2, z2⟩ := r1.back (y1 vs p1)
  obtain ⟨d', h3, z3⟩ := r2.back (y2 us p2)
  obtain ⟨x1, x2⟩ := newT (p := T) R1 (VRs.cons z2 (.one z3)) hT
  exact ⟨_, zip_item h2 h3, x1, x2⟩
theorem wk_zipT {a b : Addr} {s t : Src} (q : Vw K H0 sp (fun H xs => SqT K H a xs) s ι H) (q' : Vw K H0 sp (fun H xs => SqT K H b xs) t ι H) : Wk K H0 sp (RZ.ItzT K a b) ⟨zipT s.items t.items, s.gd ++ t.gd⟩ ι H := by
  intro ι1 h1 H1 R1 S1 good
  obtain ⟨g1, g2⟩ := good_app good
  obtain ⟨vs, p1, r1⟩ := q ι1 h1 H1 R1 S1 g1
  obtain ⟨us, p2, r2⟩ := q' ι1 h1 H1 R1 S1 g2
  have l1 := r1.length
  have l2 := r2.length
  refine ⟨fun i hi => ?_, ⟨vs, us, p1, p2, by rw [zipT_len]; omega⟩⟩
  rw [zipT_len] at hi
  refine ⟨⟨vs, us, vs[i]'(by omega), us[i]'(by omega), p1, p2, by simp, by simp⟩, fun x H' y => ?_⟩
  obtain ⟨T, xv, yv, rfl, hT, rfl, y1, y2⟩ := y
  obtain ⟨d, h2, z2⟩ := r1.back (y1 vs p1)
  obtain ⟨d', h3, z3⟩ := r2.back (y2 us p2)
  obtain ⟨x1, x2⟩ := newT (p := T) R1 (VRs.cons z2 (.one z3)) hT
  exact ⟨_, zip_item h2 h3, x1, x2⟩
end
def fEnum (fa : FA) : FI := fun env h => (fa env h).bnd fun xs h1 => match xs with
  | [x] => match bs h1 x with
    | some s => .ok ⟨enumL 0 s.items, s.gd⟩ h1
    | none => .no
  | _ => .no
def D.isTup : D → Bool
  | .tup _ => true
  | _ => false
def fZip (fa : FA) : FI := fun env h => (fa env h).bnd fun xs h1 => match xs with
  | [x, y] => if x.isTup = y.isTup then match bs h1 x, bs h1 y with
      | some s, some t => .ok ⟨zipT s.items t.items, s.gd ++ t.gd⟩ h1
      | _, _ => .no
    else .no
  | _ => .no
section
variable {g : G} {W : Wx}
theorem sim_enum {ta : TA} {fa : FA} (ha : SimA g W ta fa) : SimI g W (EN.iEnumT g.K ta) (fEnum fa) := by
  intro H0 sp ι h H env σ Q R E w
  refine ha H0 sp ι h H env σ _ R E (WP.bnd w fun xs h1 ι1 H1 R1 S1 w1 vs q => ?_)
  split at w1
  · obtain ⟨v, rfl, q1⟩ := q.oneE
    rename_i x
    cases hs : bs h1 x with
    | none => simp only [hs] at w1; exact w1.elim
    | some s =>
      simp only [hs] at w1
      obtain ⟨a, rfl, z | z⟩ := vw_of R1 q1 hs
      · obtain ⟨xs, p⟩ := z.1
        exact ⟨a, xs, rfl, .inl ⟨p, w1.here R1 _ (wk_enum z)⟩⟩
      · obtain ⟨xs, p⟩ := z.1
        exact ⟨a, xs, rfl, .inr ⟨p, w1.here R1 _ (wk_enumT z)⟩⟩
  · exact w1.elim
theorem bs_tup {h : Hs} {x : D} {s : Src} {K : PySem.W.Frag} {H0 : Hp} {sp ι : List Addr} {H : Hp} {v : V} (R : Rel K H0 sp ι h H) (q : VR K ι H x v) (e : bs h x = some s) :
    (x.isTup = true → ∃ a, v = .ref a ∧ (∃ xs, SqT K H a xs) ∧ Vw K H0 sp (fun H xs => SqT K H a xs) s ι H) ∧ (x.isTup = false → ∃ a, v = .ref a ∧ (∃ xs, SqL K H a xs) ∧ Vw K H0 sp (fun H xs => SqL K H a xs) s ι H) := by
  cases x with
  | tup ds =>
    refine ⟨fun _ => ?_, fun z => by cases z⟩
    cases e
    obtain ⟨a, vs, rfl, p, r⟩ := q.tupE
    exact ⟨a, rfl, ⟨vs, p⟩, fun ι1 h1 H1 R1 S1 _ => ⟨vs, sqT_step S1 p, VRs.mono S1 _ _ r⟩⟩
  | lst ds =>
    refine ⟨fun z => by (have : false = true := z; cases this), fun _ => ?_⟩
    cases e
    unfold VR at q
    obtain ⟨a, vs, rfl, p, na, r⟩ := q
    exact ⟨a, rfl, ⟨vs, SqL.of p⟩, fun ι1 h1 H1 R1 S1 _ => ⟨vs, SqL.of (S1.keep _ _ p na).1, VRs.mono S1 _ _ r⟩⟩
  | ref n =>
    refine ⟨fun z => by (have : false = true := z; cases this), fun _ => ?_⟩
    unfold bs at e
    cases hn : h[n]? with
    | none => simp only [hn] at e; cases e
    | some o =>
      simp only [hn] at e
      cases o with
      | dct b => cases e
      | tb => cases e
      | dtt b => cases e
      | lst ds =>
        cases e
        unfold VR at q
        obtain ⟨a, rfl, e2⟩ := q
        obtain ⟨b, e3, vs, p, r⟩ := R.ob _ _ hn
        rw [e2] at e3; cases e3
        refine ⟨a, rfl, ⟨vs, SqL.of p⟩, fun ι1 h1 H1 R1 S1 good => ?_⟩
        obtain ⟨b, e4, vs', p1, r1⟩ := R1.ob _ _ (good (n, ds) (by simp))
        rw [S1.pre _ _ e2] at e4; cases e4
        exact ⟨vs', SqL.of p1, r1⟩
  | _ => cases e
theorem sim_zip {ta : TA} {fa : FA} (ha : SimA g W ta fa) : SimI g W (RZ.iZipA g.K ta) (fZip fa) := by
  intro H0 sp ι h H env σ Q R E w
  refine ha H0 sp ι h H env σ _ R E (WP.bnd w fun xs h1 ι1 H1 R1 S1 w1 vs q => ?_)
  split at w1
  · rename_i x y
    obtain ⟨v, v', rfl, q1, q2⟩ := q.twoE
    obtain ⟨hc, w1⟩ := ifN w1
    cases hs : bs h1 x with
    | none => simp only [hs] at w1; exact w1.elim
    | some s =>
      cases ht : bs h1 y with
      | none => simp only [hs, ht] at w1; exact w1.elim
      | some t =>
        simp only [hs, ht] at w1
        cases hx : x.isTup with
        | true =>
          obtain ⟨a, rfl, ⟨xs, p⟩, z⟩ := (bs_tup R1 q1 hs).1 hx
          obtain ⟨b, rfl, ⟨ys, p'⟩, z'⟩ := (bs_tup R1 q2 ht).1 (hc ▸ hx)
          exact ⟨a, b, xs, ys, rfl, .inr ⟨p, p', w1.here R1 _ (wk_zipT z z')⟩⟩
        | false =>
          obtain ⟨a, rfl, ⟨xs, p⟩, z⟩ := (bs_tup R1 q1 hs).2 hx
          obtain ⟨b, rfl, ⟨ys, p'⟩, z'⟩ := (bs_tup R1 q2 ht).2 (hc ▸ hx)
          exact ⟨a, b, xs, ys, rfl, .inl ⟨p, p', w1.here R1 _ (wk_zip z z')⟩⟩
  · exact w1.elim
/-! ### x[::-1] -/
def revD (x : D) (h : Hs) : R D := match x with
  | .tup ds => .ok (.tup ds.reverse) h
  | x => match lof h x with
    | some ds => .ok (.ref h.length) (h ++ [.lst ds.reverse])
    | none => .no
def fRev (fe fs : FE) : FE := fun env h => (fe env h).bnd fun x h1 => (fs env h1).bnd fun y h2 => match y with
  | .int i => if i = -1 then revD x h2 else .no
  | _ => .no
theorem VRs.rev {K : PySem.W.Frag} {ι : List Addr} {H : Hp} : ∀ {ds : List D} {vs : List V}, VRs K ι H ds vs → VRs K ι H ds.reverse vs.reverse
  | [], vs, h => by rw [VRs.nil_iff.mp h]; exact VRs.nil_iff.mpr rfl
  | d :: ds, vs, h => by
    obtain ⟨v, r, rfl, h1, h2⟩ := VRs.cons_iff.mp h
    rw [List.reverse_cons, List.reverse_cons]
    exact VRs.app h2.rev (.one h1)
theorem sim_rev {te ts : TE} {fe fs : FE} (he : SimE g W te fe) (hs : SimE g W ts fs) : SimE g W (fun σ H Q => te σ H fun x H1 => ts σ H1 fun y H2 => y = .int (-1) ∧ SR.kRev g.K x H2 Q) (fRev fe fs) := by
  intro H0 sp ι h H env σ Q R E w
  refine he H0 sp ι h H env σ _ R E (WP.bnd w fun x h1 ι1 H1 R1 S1 w1 v1 q1 => ?_)
  refine hs H0 sp ι1 h1 H1 env σ _ R1 (E.mono S1) (WP.bnd w1 fun y h2 ι2 H2 R2 S2 w2 v2 q2 => ?_)
  have q3 := VR.mono S2 _ _ q1
  split at w2
  · obtain ⟨hc, w3⟩ := ifN w2
    have e : v2 = .int _ := q2
    clear w2 w1 w
    subst e hc
    refine ⟨rfl, ?_⟩
    unfold revD at w3
    split at w3
    · obtain ⟨a, vs, rfl, p, r⟩ := q3.tupE
      refine ⟨a, vs, rfl, .inl ⟨p, fun n hn => ?_⟩⟩
      obtain ⟨x1, x2⟩ := newT R2 r.rev hn
      exact w3.at x1 _ x2
    · split at w3
      · rename_i ds e1
        obtain ⟨a, vs, rfl, p, r⟩ := lof_ok R2 q3 e1
        refine ⟨a, vs, rfl, .inr ⟨SqL.of p, fun n hn => ?_⟩⟩
        obtain ⟨x1, x2⟩ := newL R2 r.rev hn
        exact w3.at x1 _ x2
      · exact w3.elim
  · exact w2.elim
/-! ### list(range), tuple(range) -/
def fRL1 (tup : Bool) (fe : FE) : FE := fun env h => (fe env h).bnd fun x h1 => match x with
  | .int j => if 0 ≤ j ∧ j ≤ 16777216 then (if tup = true then .ok (.tup (rangeL 0 j.toNat)) h1 else .ok (.ref h1.length) (h1 ++ [.lst (rangeL 0 j.toNat)])) else .no
  | _ => .no
def fRL2 (tup : Bool) (fa fb : FE) : FE := fun env h => (fa env h).bnd fun x h1 => (fb env h1).bnd fun y h2 => match x, y with
  | .int i, .int j => if 0 ≤ i ∧ i ≤ 16777216 ∧ 0 ≤ j ∧ j ≤ 16777216 then (if tup = true then .ok (.tup (rangeL i (j - i).toNat)) h2 else .ok (.ref h2.length) (h2 ++ [.lst (rangeL i (j - i).toNat)])) else .no
  | _, _ => .no
theorem vrs_range {K : PySem.W.Frag} {ι : List Addr} {H : Hp} (a b : Int) : VRs K ι H (rangeL a (b - a).toNat) (rgV a b) := by
  unfold rangeL rgV
  generalize List.range (b - a).toNat = l
  induction l with
  | nil => exact VRs.nil_iff.mpr rfl
  | cons i r ih => exact .cons rfl ih
theorem sim_lstRg1 {ta : TE} {fa : FE} (ha : SimE g W ta fa) : SimE g W (tLstRg (tRg1 ta)) (fRL1 false fa) := by
  intro H0 sp ι h H env σ Q R E w
  refine ha H0 sp ι h H env σ _ R E (WP.bnd w fun x h1 ι1 H1 R1 S1 w1 v q => ?_)
  split at w1
  · rename_i j
    obtain ⟨⟨j0, j1⟩, w1⟩ := ifN w1
    rw [if_neg Bool.false_ne_true] at w1
    have e : v = .int _ := q
    subst e
    refine ⟨_, rfl, .of_le (by omega) j1 (by omega) j0, fun n hn => ?_⟩
    have r := vrs_range (K := g.K) (ι := ι1) (H := H1) 0 j
    rw [Int.sub_zero] at r
    obtain ⟨x1, x2⟩ := newL R1 r hn
    exact w1.at x1 _ x2
  · exact w1.elim
theorem sim_tupRg1 {ta : TE} {fa : FE} (ha : SimE g W ta fa) : SimE g W (tTupRg (tRg1 ta)) (fRL1 true fa) := by
  intro H0 sp ι h H env σ Q R E w
  refine ha H0 sp ι h H env σ _ R E (WP.bnd w fun x h1 ι1 H1 R1 S1 w1 v q => ?_)
  split at w1
  · rename_i j
    obtain ⟨⟨j0, j1⟩, w1⟩ := ifN w1
    rw [if_pos rfl] at w1
    have e : v = .int _ := q
    subst e
    refine ⟨_, rfl, .of_le (by omega) j1 (by omega) j0, fun n hn => ?_⟩
    have r := vrs_range (K := g.K) (ι := ι1) (H := H1) 0 j
    rw [Int.sub_zero] at r
    obtain ⟨x1, x2⟩ := newT R1 r hn
    exact w1.at x1 _ x2
  · exact w1.elim
theorem sim_lstRg2 {ta tb : TE} {fa fb : FE} (ha : SimE g W ta fa) (hb : SimE g W tb fb) : SimE g W (tLstRg (tRg2 ta tb)) (fRL2 false fa fb) := by
  intro H0 sp ι h H env σ Q R E w
  refine ha H0 sp ι h H env σ _ R E (WP.bnd w fun x h1 ι1 H1 R1 S1 w1 v q => ?_)
  refine hb H0 sp ι1 h1 H1 env σ _ R1 (E.mono S1) (WP.bnd w1 fun y h2 ι2 H2 R2 S2 w2 v2 q2 => ?_)
  split at w2
  · obtain ⟨⟨i0, i1, j0, j1⟩, w2⟩ := ifN w2
    rw [if_neg Bool.false_ne_true] at w2
    have e : v = .int _ := q
    have e' : v2 = .int _ := q2
    subst e e'
    refine ⟨_, _, rfl, rfl, .of_le i0 j1 i1 j0, fun n hn => ?_⟩
    obtain ⟨x1, x2⟩ := newL R2 (vrs_range _ _) hn
    exact w2.at x1 _ x2
  · exact w2.elim
theorem sim_tupRg2 {ta tb : TE} {fa fb : FE} (ha : SimE g W ta fa) (hb : SimE g W tb fb) : SimE g W (tTupRg (tRg2 ta tb)) (fRL2 true fa fb) := by
  intro H0 sp ι h H env σ Q R E w
  refine ha H0 sp ι h H env σ _ R E (WP.bnd w fun x h1 ι1 H1 R1 S1 w1 v q => ?_)
  refine hb H0 sp ι1 h1 H1 env σ _ R1 (E.mono S1) (WP.bnd w1 fun y h2 ι2 H2 R2 S2 w2 v2 q2 => ?_)
  split at w2
  · obtain ⟨⟨i0, i1, j0, j1⟩, w2⟩ := ifN w2
    rw [if_pos rfl] at w2
    have e : v = .int _ := q
    have e' : v2 = .int _ := q2
    subst e e'
    refine ⟨_, _, rfl, rfl, .of_le i0 j1 i1 j0, fun n hn => ?_⟩
    obtain ⟨x1, x2⟩ := newT R2 (vrs_range _ _) hn
    exact w2.at x1 _ x2
  · exact w2.elim
end
section
variable {X : Cx}
theorem kEnum (K) {e : Expr} {ta : TA} {p pos tpos : Pos} {elts : List Expr} {kk : Nat} (hg : Gl X "enumerate") (hm : X.mg "enumerate" = none) (ha : PA X [e] ta) (hs : starEach [e] X.env = [(false, eval e X.env)] := by rfl) (h : X.K = K := by rfl) :
    PI X (.Tuple elts kk tpos) (.Call (.Name "enumerate" p) [e] [] pos) (EN.iEnumT K ta) := h ▸ EN.pi_enumU hg hm ha hs
theorem kZipI (K) {e e2 : Expr} {ta : TA} {p pos tpos : Pos} {elts : List Expr} {kk : Nat} (hg : Gl X "zip") (hm : X.mg "zip" = none) (ha : PA X [e, e2] ta) (hs : starEach [e, e2] X.env = (false, eval e X.env) :: starEach [e2] X.env := by rfl)
    (hpl : (backTo pos (starEach [e2] X.env)).any (·.1) = false := by rfl) (h : X.K = K := by rfl) : PI X (.Tuple elts kk tpos) (.Call (.Name "zip" p) [e, e2] [] pos) (RZ.iZipA K ta) := h ▸ RZ.pi_zipA hg hm ha hs hpl
theorem kRevE (K) {e st : Expr} {te ts : TE} {pos p2 : Pos} (he : PE X e te) (hst : PE X st ts) (h : X.K = K := by rfl) : PE X (.Subscript e (.Slice none none (some st) p2) pos) (fun σ H Q => te σ H fun x H1 => ts σ H1 fun y H2 => y = .int (-1) ∧ SR.kRev K x H2 Q) :=
  h ▸ SR.pe_rev he hst (ops := fun v u => [v, u]) (fun _ _ => rfl)
end
end PF
namespace PF
open PySem PySem.Spec PyProof.Rows L2
/-- a comprehension whose parts leave the heap as it is -/
theorem lc_ev {fi : FI} {fg : FG} {fc : FT} {fe : FE} {vs : List Nat} {env : En} {h0 : Hs} {l : List D} {gd : List (Nat × List D)} (f : D → Option D) (hi : fi env h0 = .ok ⟨l, gd⟩ h0) (hg : ∀ p ∈ gd, h0[p.1]? = some (.lst p.2)) (hl : l.length ≤ 16777216)
    (hs : ∀ d ∈ l, ∀ acc, ∃ e, fg d (wipeE env vs) (h0 ++ [.lst acc]) = .ok e (h0 ++ [.lst acc]) ∧ (match f d with
      | some y => fc e (h0 ++ [.lst acc]) = .ok true (h0 ++ [.lst acc]) ∧ fe e (h0 ++ [.lst acc]) = .ok y (h0 ++ [.lst acc])
      | none => fc e (h0 ++ [.lst acc]) = .ok false (h0 ++ [.lst acc]))) :
    fLc fi fg fc fe vs env h0 = .ok (.ref h0.length) (h0 ++ [.lst (l.filterMap f)]) := by
  obtain ⟨h', z1, ⟨acc', rfl⟩, z3⟩ := lc_gives (fg := fg) (fc := fc) (fe := fe) (s := ⟨l, gd⟩) (n := h0.length) (env := wipeE env vs) (fun h => ∃ acc, h = h0 ++ [.lst acc]) (fun h i p m => by
      obtain ⟨acc, rfl⟩ := i
      have := hg p m
      rw [List.getElem?_append_left (by exact (List.getElem?_eq_some_iff.mp this).1)]; exact this) f l (h0 ++ [.lst []]) [] ⟨_, rfl⟩ (by simp) (by simpa using hl) (fun d m h acc il hn => by
      obtain ⟨acc0, rfl⟩ := il
      obtain ⟨e, q1, q2⟩ := hs d m acc0
      refine ⟨e, _, h0 ++ [.lst acc0], q1, ?_⟩
      cases hf : f d with
      | none => rw [hf] at q2; exact ⟨q2, hn, _, rfl⟩
      | some y =>
        rw [hf] at q2
        exact ⟨q2.1, _, q2.2, hn, _, by simp; rfl⟩)
  have z4 : acc' = l.filterMap f := by
    rw [List.getElem?_append_right (by omega)] at z3
    simp at z3
    exact z3
  subst z4
  unfold fLc
  rw [hi]
  simp only [bnd_ok]
  rw [z1]
  rfl
theorem fm_map {α β : Type} (f : α → β) : ∀ l : List α, l.filterMap (fun a => some (f a)) = l.map f
  | [] => rfl
  | a :: r => by rw [List.filterMap_cons, fm_map f r]; rfl
/-- the same, no test -/
theorem lc_map {fi : FI} {fg : FG} {fe : FE} {vs : List Nat} {env : En} {h0 : Hs} {l : List D} {gd : List (Nat × List D)} (f : D → D) (hi : fi env h0 = .ok ⟨l, gd⟩ h0) (hg : ∀ p ∈ gd, h0[p.1]? = some (.lst p.2)) (hl : l.length ≤ 16777216)
    (hs : ∀ d ∈ l, ∀ acc, ∃ e, fg d (wipeE env vs) (h0 ++ [.lst acc]) = .ok e (h0 ++ [.lst acc]) ∧ fe e (h0 ++ [.lst acc]) = .ok (f d) (h0 ++ [.lst acc])) :
    fLc fi fg fYes fe vs env h0 = .ok (.ref h0.length) (h0 ++ [.lst (l.map f)]) := by
  rw [← fm_map]
  exact lc_ev (fun d => some (f d)) hi hg hl fun d m acc => by
    obtain ⟨e, q1, q2⟩ := hs d m acc
    exact ⟨e, q1, rfl, q2⟩
/-- an own list that is new and last, alone kept -/
theorem tmp_one {h junk : Hs} {o : Ob} {m : Nat} (hm : m = h.length + junk.length) (hb : h.all (belO h.length) = true) (ho : belO h.length o = true) : tmpR h (.ok (.ref m) (h ++ junk ++ [o])) = .ok (.ref h.length) (h ++ [o]) := by
  subst hm
  unfold tmpR
  have e1 : (h ++ junk ++ [o]).take h.length = h := by rw [List.append_assoc, List.take_left]
  have e2 : (h ++ junk ++ [o])[h.length + junk.length]? = some o := by
    rw [List.getElem?_append_right (by simp)]; simp
  simp only [e1, hb, if_true, D.pur, Bool.false_eq_true, if_false, e2, ho]
  rw [if_neg (by omega)]
theorem tmp_cut {h junk : Hs} {d : D} (hp : d.pur = true) (hb : h.all (belO h.length) = true) : tmpR h (.ok d (h ++ junk)) = .ok d h := tmp_pur hp List.take_left hb
theorem purs_of {l : List D} (h : ∀ d ∈ l, d.pur = true) : purs l = true := by rw [purs_all, List.all_eq_true]; exact h
theorem nors_of {l : List D} (h : ∀ d ∈ l, d.nor = true) : nors l = true := by rw [nors_all, List.all_eq_true]; exact h
theorem dpts_le {n : Nat} : ∀ {l : List D}, (∀ d ∈ l, dpt d ≤ n) → dpts l ≤ n
  | [], _ => by rw [dpts]; omega
  | d :: r, h => by
    rw [dpts]
    have h1 := h d List.mem_cons_self
    have h2 := dpts_le fun d m => h d (List.mem_cons_of_mem _ m)
    omega
theorem dszs_le {n : Nat} : ∀ {l : List D}, (∀ d ∈ l, dsz d ≤ n) → dszs l ≤ n * l.length
  | [], _ => by rw [dszs]; omega
  | d :: r, h => by
    rw [dszs, List.length_cons, Nat.mul_succ]
    have h1 := h d List.mem_cons_self
    have h2 := dszs_le fun d m => h d (List.mem_cons_of_mem _ m)
    omega
theorem range_purs (lo : Int) (n : Nat) : purs (rangeL lo n) = true := purs_of fun d m => by
  obtain ⟨i, _, rfl⟩ := mem_range m; rfl
theorem bel_pur {n : Nat} {o : Ob} (h : o.pur = true) : belO n o = true := by
  cases o with
  | lst ds => exact bels_nors n _ (nors_of_purs _ h)
  | dct kvs =>
    have h' : (purs (kvs.map Prod.fst) && purs (kvs.map Prod.snd)) = true := h
    rw [Bool.and_eq_true] at h'
    show (bels n _ && bels n _) = true
    rw [bels_nors n _ (nors_of_purs _ h'.1), bels_nors n _ (nors_of_purs _ h'.2)]; rfl
  | tb => rfl
  | dtt kvs => exact bels_nors n _ (nors_of_purs _ h)
theorem all_pur {h : Hs} {n : Nat} (hp : h.all Ob.pur = true) : h.all (belO n) = true := by
  rw [List.all_eq_true] at hp ⊢
  exact fun o m => bel_pur (hp o m)
/-- in a heap of plain objects a plain temporary leaves nothing, a new list itself alone -/
theorem tmp_p {h junk : Hs} {d : D} (hh : h.all Ob.pur = true) (hp : d.pur = true) : tmpR h (.ok d (h ++ junk)) = .ok d h := tmp_cut hp (all_pur hh)
theorem tmp_l {h junk : Hs} {m : Nat} {ds : List D} (hh : h.all Ob.pur = true) (hm : m = h.length + junk.length) (hp : purs ds = true) : tmpR h (.ok (.ref m) (h ++ junk ++ [.lst ds])) = .ok (.ref h.length) (h ++ [.lst ds]) := tmp_one hm (all_pur hh) (bel_pur (o := .lst ds) hp)
end PF
namespace PF
open PySem PySem.Spec PyProof.Rows L2
/-- the bag stands first, its cells behind it: as a def that is handed the bag has them -/
abbrev BG (cs : List Int) (b : Bn) (rest : Hs) : Hs := bagO b 1 :: .lst (cs.map D.int) :: rest
theorem callG_ev {F : List D → List Int → Bn → RB} {fa : FA} {env : En} {cs : List Int} {b b' : Bn} {rest rest' : Hs} {r ds : List D} {d : D} (h1 : fa env (BG cs b rest) = .ok (.ref 0 :: r) (BG cs b rest')) (h2 : dall (dcl (hid :: hid :: rest')) r = some ds)
    (h3 : F ds cs b = .val d b') : fCallB F fa env (BG cs b rest) = .ok d (BG cs b' rest') := by
  have hr : rdB 0 (BG cs b rest') = some (b, 1, cs) := by simp [rdB, bagO]
  unfold fCallB
  rw [h1]
  simp only [bnd_ok]
  rw [hr]
  simp only []
  rw [if_pos (by decide)]
  have hm : mask (BG cs b rest') 0 1 = hid :: hid :: rest' := rfl
  rw [hm, h2]
  simp only []
  rw [h3]
  simp only [setB, BG, List.set_cons_zero]
theorem callG_obj {F : List D → List Int → Bn → RB} {fa : FA} {env : En} {cs : List Int} {b b' : Bn} {rest rest' : Hs} {r ds : List D} {o : Ob} (h1 : fa env (BG cs b rest) = .ok (.ref 0 :: r) (BG cs b rest')) (h2 : dall (dcl (hid :: hid :: rest')) r = some ds)
    (h3 : F ds cs b = .obj o b') : fCallB F fa env (BG cs b rest) = .ok (.ref (rest'.length + 2)) (BG cs b' (rest' ++ [o])) := by
  have hr : rdB 0 (BG cs b rest') = some (b, 1, cs) := by simp [rdB, bagO]
  unfold fCallB
  rw [h1]
  simp only [bnd_ok]
  rw [hr]
  simp only []
  rw [if_pos (by decide)]
  have hm : mask (BG cs b rest') 0 1 = hid :: hid :: rest' := rfl
  rw [hm, h2]
  simp only []
  rw [h3]
  simp only [setB, BG, List.set_cons_zero, List.length_cons, List.cons_append]
theorem callB_obj {F : List D → List Int → Bn → RB} {fa : FA} {env : En} {cs : List Int} {b b' : Bn} {rest rest' : Hs} {r ds : List D} {o : Ob} (h1 : fa env (BH cs b rest) = .ok (.ref 1 :: r) (BH cs b rest')) (h2 : dall (dcl (hid :: hid :: rest')) r = some ds)
    (h3 : F ds cs b = .obj o b') : fCallB F fa env (BH cs b rest) = .ok (.ref (rest'.length + 2)) (BH cs b' (rest' ++ [o])) := by
  have hr : rdB 1 (BH cs b rest') = some (b, 0, cs) := by simp [rdB, bagO]
  unfold fCallB
  rw [h1]
  simp only [bnd_ok]
  rw [hr]
  simp only []
  rw [if_pos (by decide)]
  have hm : mask (BH cs b rest') 1 0 = hid :: hid :: rest' := rfl
  rw [hm, h2]
  simp only []
  rw [h3]
  simp only [setB, BH, List.set_cons_succ, List.set_cons_zero, List.length_cons, List.cons_append]
theorem belBG (n : Nat) (hn : 2 ≤ n) (cs : List Int) (b : Bn) : belO n (bagO b 1) = true ∧ belO n (.lst (cs.map D.int)) = true := by
  refine ⟨?_, bels_int n cs⟩
  simp [bagO, belO, bels, bel]; omega
theorem all_BG (n : Nat) (hn : 2 ≤ n) (cs : List Int) (b : Bn) (rest : Hs) (h : rest.all (belO n) = true) : (BG cs b rest).all (belO n) = true := by
  simp only [BG, List.all_cons, (belBG n hn cs b).1, (belBG n hn cs b).2, h, Bool.and_self]
theorem tmp_BG {cs : List Int} {b b' : Bn} {rest : Hs} {d : D} (hp : d.pur = true) (hr : rest.all Ob.pur = true) (junk : Hs) : tmpR (BG cs b rest) (.ok d (BG cs b' (rest ++ junk))) = .ok d (BG cs b' rest) :=
  tmp_pur hp (by simp [BG]) (all_BG _ (by simp [BG]) cs b' rest (all_pur hr))
theorem tmp_BH' {cs : List Int} {b b' : Bn} {rest : Hs} {d : D} (hp : d.pur = true) (hr : rest.all Ob.pur = true) (junk : Hs) : tmpR (BH cs b rest) (.ok d (BH cs b' (rest ++ junk))) = .ok d (BH cs b' rest) :=
  tmp_pur hp (by simp [BH]) (all_BH _ (by simp [BH]) cs b' rest (all_pur hr))
theorem tmpB_BH {cs : List Int} {b b' : Bn} {rest : Hs} {d : Bool} (hr : rest.all Ob.pur = true) (junk : Hs) : tmpB (BH cs b rest) (.ok d (BH cs b' (rest ++ junk))) = .ok d (BH cs b' rest) :=
  tmpB_cut (by simp [BH]) (all_BH _ (by simp [BH]) cs b' rest (all_pur hr))
theorem tmpL_BH {cs : List Int} {b b' : Bn} {rest junk : Hs} {m : Nat} {ds : List D} (hr : rest.all Ob.pur = true) (hm : m = rest.length + 2 + junk.length) (hp : purs ds = true) : tmpR (BH cs b rest) (.ok (.ref m) (BH cs b' (rest ++ junk ++ [.lst ds]))) = .ok (.ref (rest.length + 2)) (BH cs b' (rest ++ [.lst ds])) := by
  subst hm
  unfold tmpR
  have e1 : (BH cs b' (rest ++ junk ++ [.lst ds])).take (BH cs b rest).length = BH cs b' rest := by simp [BH]
  have hb := all_BH (BH cs b rest).length (by simp [BH]) cs b' rest (all_pur hr)
  have e2 : (BH cs b' (rest ++ junk ++ [Ob.lst ds]))[rest.length + 2 + junk.length]? = some (.lst ds) := by
    rw [show rest.length + 2 + junk.length = rest.length + junk.length + 1 + 1 by omega]
    simp only [BH, List.getElem?_cons_succ]
    rw [List.getElem?_append_right (by simp)]; simp
  have hlen : (BH cs b rest).length = rest.length + 2 := by simp [BH]
  have hbel : belO (rest.length + 2) (Ob.lst ds) = true := bel_pur (o := .lst ds) hp
  rw [hlen] at e1 hb
  simp only [hlen, e1]
  rw [if_pos hb, if_neg (by simp [D.pur])]
  rw [if_neg (by omega), e2]
  show (if belO (rest.length + 2) (Ob.lst ds) = true then _ else _) = _
  rw [if_pos hbel]
  rfl
/-! ### mixing -/
theorem neD_ref {h : Hs} {n m : Nat} {a b : List D} (e : h[n]? = some (.lst a)) (e' : h[m]? = some (.lst b)) (hn : nors a = true) (hm : nors b = true) (da : dpts a ≤ 59) (db : dpts b ≤ 59) : neD (.ref n) (.ref m) h = .ok (.bl (!deqs a b)) h := by
  unfold neD
  rw [dref_ref e hn, dref_ref e' hm]
  simp only []
  rw [if_pos ⟨by rw [dpt]; omega, by rw [dpt]; omega⟩, deq]
noncomputable def mxT : FT := (fTmpB (fTest (fOp2 neD (fVar 2) (fLst fNil))))
noncomputable def mxB (F : List D → List Int → Bn → RB) : FS := (fDrop (fBM "list" appendD (fVar 3) (fCons (fTmp (fBM "list" popAtD (fVar 2) (fCons (fTmp (fCallB F (fCons (fVar 0) (fCons (fCB lenD (fCons (fVar 2) fNil)) fNil)))) fNil))) fNil)))
noncomputable def fsMixed (F : List D → List Int → Bn → RB) : FS := (fSeq (fPar 2 3 (fCons (fCB listD (fCons (fVar 1) fNil)) (fCons (fLst fNil) fNil)))
    (fSeq (fWhile mxT (mxB F))
    (fRet (fVar 3))))
theorem seqIndex_nat {k n : Nat} (h : k < n) : seqIndex? (k : Int) n = some k := by
  have h1 : ¬ ((k : Int) < 0) := by omega
  have h2 : (decide (0 ≤ (k : Int)) && decide ((k : Int) < (n : Int))) = true := by simp; omega
  simp only [seqIndex?, if_neg h1, h2, if_true, Int.toNat_natCast]
theorem erase_perm {l : List D} {k : Nat} {x : D} (h : l[k]? = some x) : l.Perm (x :: l.eraseIdx k) := by
  induction l generalizing k with
  | nil => simp at h
  | cons a r ih =>
    cases k with
    | zero => simp at h; subst h; exact List.Perm.refl _
    | succ k =>
      have := ih (k := k) (by simpa using h)
      rw [List.eraseIdx_cons_succ]
      exact (List.Perm.cons a this).trans (List.Perm.swap x a _)
theorem mx_test (cs : List Int) (o1 : Option D) (left acc : List D) (b : Bn) (h1 : purs left = true) (h2 : purs acc = true) (h3 : dpts left ≤ 59) : mxT [some (.ref 0), o1, some (.ref 2), some (.ref 3)] (BG cs b [.lst left, .lst acc]) = .ok (!left.isEmpty) (BG cs b [.lst left, .lst acc]) := by
  have e : neD (.ref 2) (.ref 4) (BG cs b [.lst left, .lst acc, .lst []]) = .ok (.bl (!left.isEmpty)) (BG cs b [.lst left, .lst acc, .lst []]) := by
    rw [neD_ref (a := left) (b := []) rfl rfl (nors_of_purs _ h1) rfl h3 (by decide), deqs_nil]
  unfold mxT
  simp (decide := true) only [fTmpB, fTest, fOp2, fVar, fLst, fNil, bnd_ok, List.getElem?_cons_succ, List.getElem?_cons_zero, List.length_cons, List.length_nil, if_true, List.cons_append, List.nil_append, Nat.reduceAdd, Nat.zero_add]
  rw [e]
  simp only [bnd_ok]
  exact tmpB_cut (k := BG cs b [.lst left, .lst acc]) rfl (all_BG 4 (by decide) cs b _ (all_pur (by simp [Ob.pur, h1, h2])))

theorem mx_body (F : List D → List Int → Bn → RB) (cs : List Int) (o1 : Option D) (left acc : List D) (b b' : Bn) (k : Nat) (x : D) (h1 : purs left = true) (h2 : purs acc = true) (hk : k < left.length) (hg : left[k]? = some x) (hl : left.length + acc.length ≤ 1000000) (e : F [.int left.length] cs b = .val (.int k) b') :
    mxB F [some (.ref 0), o1, some (.ref 2), some (.ref 3)] (BG cs b [.lst left, .lst acc]) = .ok (.nx [some (.ref 0), o1, some (.ref 2), some (.ref 3)]) (BG cs b' [.lst (left.eraseIdx k), .lst (acc ++ [x])]) := by
  have hpk : x.pur = true := by
    rw [purs_all, List.all_eq_true] at h1
    exact h1 _ (List.mem_of_getElem? hg)
  have hpe : purs (left.eraseIdx k) = true := by
    rw [purs_all, List.all_eq_true] at h1 ⊢
    exact fun d m => h1 d (List.mem_of_mem_eraseIdx m)
  have c1 : fCallB F (fCons (fVar 0) (fCons (fCB lenD (fCons (fVar 2) fNil)) fNil)) [some (.ref 0), o1, some (.ref 2), some (.ref 3)] (BG cs b [.lst left, .lst acc]) = .ok (.int k) (BG cs b' [.lst left, .lst acc]) :=
    callG_ev (r := [.int left.length]) (ds := [.int left.length]) (by simp only [fCons, fVar, fNil, fCB, lenD, lof, bnd_ok, BG, List.getElem?_cons_succ, List.getElem?_cons_zero]) rfl e
  have c2 : tmpR (BG cs b [.lst left, .lst acc]) (.ok (.int k) (BG cs b' [.lst left, .lst acc])) = .ok (.int k) (BG cs b' [.lst left, .lst acc]) := tmp_pur rfl rfl (all_BG 4 (by decide) cs b' _ (all_pur (by simp [Ob.pur, h1, h2])))
  have c3 : tmpR (BG cs b [.lst left, .lst acc]) (.ok x (BG cs b' [.lst (left.eraseIdx k), .lst acc])) = .ok x (BG cs b' [.lst (left.eraseIdx k), .lst acc]) := tmp_pur hpk rfl (all_BG 4 (by decide) cs b' _ (all_pur (by simp [Ob.pur, hpe, h2])))
  have ca : acc.length < 16777216 := by omega
  have cp : popAtD (.ref 2) [.int k] (BG cs b' [.lst left, .lst acc]) = .ok x (BG cs b' [.lst (left.eraseIdx k), .lst acc]) := by
    have cb : (-9223372036854775808 ≤ (k : Int) ∧ (k : Int) < 9223372036854775808) := ⟨by omega, by omega⟩
    unfold popAtD
    simp only [own, BG, List.getElem?_cons_succ, List.getElem?_cons_zero]
    rw [if_pos cb, seqIndex_nat hk]
    simp only [hg, List.set_cons_succ, List.set_cons_zero]
  have c4 : fTmp (fCallB F (fCons (fVar 0) (fCons (fCB lenD (fCons (fVar 2) fNil)) fNil))) [some (.ref 0), o1, some (.ref 2), some (.ref 3)] (BG cs b [.lst left, .lst acc]) = .ok (.int k) (BG cs b' [.lst left, .lst acc]) := by
    unfold fTmp; rw [c1]; exact c2
  have c5 : fBM "list" popAtD (fVar 2) (fCons (fTmp (fCallB F (fCons (fVar 0) (fCons (fCB lenD (fCons (fVar 2) fNil)) fNil)))) fNil) [some (.ref 0), o1, some (.ref 2), some (.ref 3)] (BG cs b [.lst left, .lst acc]) = .ok x (BG cs b' [.lst (left.eraseIdx k), .lst acc]) := by
    have ty : tyD "list" (BG cs b [.lst left, .lst acc]) (.ref 2) = true := rfl
    have ea : fCons (fTmp (fCallB F (fCons (fVar 0) (fCons (fCB lenD (fCons (fVar 2) fNil)) fNil)))) fNil [some (.ref 0), o1, some (.ref 2), some (.ref 3)] (BG cs b [.lst left, .lst acc]) = .ok [.int k] (BG cs b' [.lst left, .lst acc]) := by
      rw [fCons, c4]; rfl
    have ev : fVar 2 [some (.ref 0), o1, some (.ref 2), some (.ref 3)] (BG cs b [.lst left, .lst acc]) = .ok (.ref 2) (BG cs b [.lst left, .lst acc]) := rfl
    rw [fBM, ev, bnd_ok, if_pos ty, ea, bnd_ok, cp]
  have c6 : fTmp (fBM "list" popAtD (fVar 2) (fCons (fTmp (fCallB F (fCons (fVar 0) (fCons (fCB lenD (fCons (fVar 2) fNil)) fNil)))) fNil)) [some (.ref 0), o1, some (.ref 2), some (.ref 3)] (BG cs b [.lst left, .lst acc]) = .ok x (BG cs b' [.lst (left.eraseIdx k), .lst acc]) := by
    unfold fTmp at c5 ⊢; rw [c5]; exact c3
  have c7 : appendD (.ref 3) [x] (BG cs b' [.lst (left.eraseIdx k), .lst acc]) = .ok .non (BG cs b' [.lst (left.eraseIdx k), .lst (acc ++ [x])]) := by
    unfold appendD
    show (if acc.length < 16777216 then _ else _) = _
    rw [if_pos ca]
    rfl
  have ty : tyD "list" (BG cs b [.lst left, .lst acc]) (.ref 3) = true := rfl
  unfold mxB
  simp only [fDrop, fBM, fVar, List.getElem?_cons_succ, List.getElem?_cons_zero, bnd_ok, ty, if_true]
  rw [show fCons (fTmp (fBM "list" popAtD (fVar 2) (fCons (fTmp (fCallB F (fCons (fVar 0) (fCons (fCB lenD (fCons (fVar 2) fNil)) fNil)))) fNil))) fNil [some (.ref 0), o1, some (.ref 2), some (.ref 3)] (BG cs b [.lst left, .lst acc]) = .ok [x] (BG cs b' [.lst (left.eraseIdx k), .lst acc]) by
    rw [fCons, c6]; rfl]
  simp only [bnd_ok, c7]
theorem mixed_loop (F : List D → List Int → Bn → RB) (hF : ∀ many, 1 ≤ many → many < 1073741824 → ∀ cs b, List.length cs ≤ 63 → ∃ v b', F [.int many] cs b = .val (.int v) b' ∧ 0 ≤ v ∧ v < many) (cs : List Int) (hc : cs.length ≤ 63) (o1 : Option D) :
    ∀ (n : Nat) (left acc : List D) (b : Bn), left.length = n → purs left = true → purs acc = true → dpts left ≤ 59 → left.length + acc.length ≤ 1000000 →
    ∃ l' b', whileN mxT (mxB F) (n + 1) [some (.ref 0), o1, some (.ref 2), some (.ref 3)] (BG cs b [.lst left, .lst acc]) = .ok (.nx [some (.ref 0), o1, some (.ref 2), some (.ref 3)]) (BG cs b' [.lst [], .lst l']) ∧ l'.Perm (acc ++ left) := by
  intro n
  induction n with
  | zero =>
    intro left acc b hl h1 h2 h3 h4
    have : left = [] := List.eq_nil_of_length_eq_zero hl
    subst this
    refine ⟨acc, b, ?_, by simp⟩
    unfold whileN
    rw [mx_test cs o1 [] acc b h1 h2 h3]
    rfl
  | succ n ih =>
    intro left acc b hl h1 h2 h3 h4
    obtain ⟨v, b', e, v0, v1⟩ := hF left.length (by omega) (by omega) cs b hc
    obtain ⟨k, rfl⟩ := Int.eq_ofNat_of_zero_le v0
    have hk : k < left.length := by omega
    have hg : left[k]? = some (left[k]) := List.getElem?_eq_getElem hk
    have hpk : (left[k]).pur = true := by
      have h1' := h1
      rw [purs_all, List.all_eq_true] at h1'
      exact h1' _ (List.getElem_mem hk)
    have hpm := erase_perm hg
    have hpe : purs (left.eraseIdx k) = true := by
      have h1' := h1
      rw [purs_all, List.all_eq_true] at h1' ⊢
      exact fun d m => h1' d (List.mem_of_mem_eraseIdx m)
    have hde : dpts (left.eraseIdx k) ≤ 59 := dpts_le fun d m => by
      have hm := List.mem_of_mem_eraseIdx m
      have : ∀ l : List D, d ∈ l → dpt d ≤ dpts l := fun l => by
        induction l with
        | nil => intro m; cases m
        | cons a r ih =>
          intro m
          rw [dpts]
          rcases List.mem_cons.mp m with z | z
          · subst z; omega
          · have := ih z; omega
      exact Nat.le_trans (this _ hm) h3
    have hle : (left.eraseIdx k).length = n := by rw [List.length_eraseIdx, if_pos hk, hl]; rfl
    obtain ⟨l', b'', z1, z2⟩ := ih (left.eraseIdx k) (acc ++ [left[k]]) b' hle hpe (by rw [purs_append, h2]; simp [hpk]) hde (by rw [List.length_append]; simp only [List.length_cons, List.length_nil]; omega)
    refine ⟨l', b'', ?_, z2.trans ?_⟩
    · have hne : (!left.isEmpty) = true := by
        cases left with
        | nil => simp at hk
        | cons _ _ => rfl
      have body := mx_body F cs o1 left acc b b' k _ h1 h2 hk hg h4 e
      unfold whileN
      rw [mx_test cs o1 left acc b h1 h2 h3, hne]
      simp only [bnd_ok, if_true]
      rw [body]
      exact z1
    · rw [List.append_assoc]
      exact List.Perm.append_left acc hpm.symm
theorem mixed_gen (F : List D → List Int → Bn → RB) (hF : ∀ many, 1 ≤ many → many < 1073741824 → ∀ cs b, List.length cs ≤ 63 → ∃ v b', F [.int many] cs b = .val (.int v) b' ∧ 0 ≤ v ∧ v < many) (ds : List D) (hp : purs ds = true) (hd : dpts ds ≤ 59) (hl : ds.length ≤ 1000000) (cs : List Int) (b : Bn) (hc : cs.length ≤ 63) :
    ∃ l' b', runB 2 4 (fsMixed F) [.lst ds] cs b = .obj (.lst l') b' ∧ l'.Perm ds := by
  obtain ⟨l', b', z1, z2⟩ := mixed_loop F hF cs hc (some (.lst ds)) ds.length ds [] b rfl hp rfl hd (by simpa using hl)
  refine ⟨l', b', ?_, by simpa using z2⟩
  have w := fWhile_eq z1 (fun z => z)
  have hpl : purs l' = true := by
    rw [purs_all, List.all_eq_true] at hp ⊢
    exact fun d m => hp d (by simpa using z2.mem_iff.mp m)
  have hr : rdB 0 (BG cs b' [.lst [], .lst l']) = some (b', 1, cs) := by simp [rdB, bagO]
  unfold runB fsMixed
  rw [if_pos (show [D.lst ds].length + 1 = 2 from rfl)]
  show (match fSeq _ _ [some (.ref 0), some (.lst ds), none, none] (BG cs b []) with
    | .ok (.nx _) h => toB cs (.val .non) h
    | .ok (.rt d) h => toB cs (toP 2 d h) h
    | _ => .no) = _
  rw [seqE (e := [some (.ref 0), some (.lst ds), some (.ref 2), some (.ref 3)]) (h1 := BG cs b [.lst ds, .lst []]) (by simp (decide := true) only [fPar, fCons, fNil, fCB, fLst, fVar, listD, lof, bnd_ok, BG, List.getElem?_cons_succ, List.getElem?_cons_zero, List.length_cons, List.length_nil, List.cons_append, List.nil_append, Nat.reduceAdd, Nat.zero_add, if_true, List.set_cons_succ, List.set_cons_zero]), seqE w]
  simp only [fRet, fVar, List.getElem?_cons_succ, List.getElem?_cons_zero, bnd_ok, toB, hr, if_true, toP, D.pur, Bool.false_eq_true, if_false, BG, Ob.pur, hpl]
  rw [if_neg (by decide)]
end PF
namespace PF
open PySem PySem.Spec PyProof.Rows L2
/-! ### x is True -/
def isBD : D → D → Hs → R D
  | .bl a, .bl b, h => .ok (.bl (decide (a = b))) h
  | _, _, _ => .no
def notBD : D → D → Hs → R D
  | .bl a, .bl b, h => .ok (.bl (!decide (a = b))) h
  | _, _, _ => .no
section
variable {g : G}
theorem sim_isB : SimR2 g (fun x y H Q => ∃ a b : Bool, x = .bl a ∧ y = .bl b ∧ Q (.bl (decide (a = b))) H) isBD := by
  intro H0 sp ι h H x y vx vy W Q R qx qy w
  unfold isBD at w
  split at w
  · have e : vx = .bl _ := qx
    have e' : vy = .bl _ := qy
    subst e e'
    exact ⟨_, _, rfl, rfl, w.here R _ rfl⟩
  · exact w.elim
theorem sim_notB : SimR2 g (fun x y H Q => ∃ a b : Bool, x = .bl a ∧ y = .bl b ∧ Q (.bl (!decide (a = b))) H) notBD := by
  intro H0 sp ι h H x y vx vy W Q R qx qy w
  unfold notBD at w
  split at w
  · have e : vx = .bl _ := qx
    have e' : vy = .bl _ := qy
    subst e e'
    exact ⟨_, _, rfl, rfl, w.here R _ rfl⟩
  · exact w.elim
end
theorem mem_enum {l : List D} {k : Nat} {d : D} (m : d ∈ enumL k l) : ∃ (i : Nat) (x : D), l[i]? = some x ∧ d = .tup [.int ((k + i : Nat)), x] := by
  obtain ⟨i, hi⟩ := List.getElem?_of_mem m
  rw [enumL_get] at hi
  cases hx : l[i]? with
  | none => rw [hx] at hi; cases hi
  | some x => rw [hx] at hi; exact ⟨i, x, hx, (Option.some.inj hi).symm⟩
/-- a call of alike with the same thing twice -/
theorem alk {F : List D → RP} (hF : ∀ x : D, x.nor = true → dsz x ≤ 16777216 → F [x, x] = .val (.bl true)) {fa : FA} {env : En} {h h' : Hs} {ds : List D} {x : D} (h1 : fa env h = .ok ds h') (h2 : dall (dcl h') ds = some [x, x]) (hn : x.nor = true) (hs : dsz x ≤ 16777216) :
    fNot (fTru (fCall F fa)) env h = .ok false h' := by
  unfold fNot fTru
  rw [call_val h1 h2 (hF x hn hs)]
  rfl
theorem dszs_ints {l : List D} (h : ∀ d ∈ l, dsz d = 1) : dszs l = l.length := by
  induction l with
  | nil => rfl
  | cons a r ih => rw [dszs, ih fun d m => h d (List.mem_cons_of_mem _ m), h a List.mem_cons_self, List.length_cons]; omega
end PF
namespace PF
open PySem PySem.Spec PyProof.Rows L2
/-! ### a <= b <= c -/
def fChain (f f' : D → D → Hs → R D) (fa fb fc : FE) : FE := fun env h => (fa env h).bnd fun x h1 => (fb env h1).bnd fun y h2 => (f x y h2).bnd fun z h3 => match z with
  | .bl true => (fc env h3).bnd fun w h4 => f' y w h4
  | .bl false => .ok (.bl false) h3
  | _ => .no
section
variable {g : G} {W : Wx}
theorem sim_chain {r r' : R2} {f f' : D → D → Hs → R D} {ta tb tc : TE} {fa fb fc : FE} (hr : SimR2 g r f) (hr' : SimR2 g r' f') (ha : SimE g W ta fa) (hb : SimE g W tb fb) (hc : SimE g W tc fc) : SimE g W (tChain r r' ta tb tc) (fChain f f' fa fb fc) := by
  intro H0 sp ι h H env σ Q R E w
  refine ha H0 sp ι h H env σ _ R E (WP.bnd w fun x h1 ι1 H1 R1 S1 w1 v1 q1 => ?_)
  refine hb H0 sp ι1 h1 H1 env σ _ R1 (E.mono S1) (WP.bnd w1 fun y h2 ι2 H2 R2 S2 w2 v2 q2 => ?_)
  refine hr H0 sp ι2 h2 H2 x y v1 v2 W _ R2 (VR.mono S2 _ _ q1) q2 (WP.bnd w2 fun z h3 ι3 H3 R3 S3 w3 v3 q3 => ?_)
  split at w3
  · have e : v3 = .bl true := q3
    refine ⟨true, e, ?_⟩
    rw [if_pos rfl]
    refine hc H0 sp ι3 h3 H3 env σ _ R3 (E.mono ((S1.trans S2).trans S3)) (WP.bnd w3 fun u h4 ι4 H4 R4 S4 w4 v4 q4 => ?_)
    exact hr' H0 sp ι4 h4 H4 y u v2 v4 W Q R4 (VR.mono (S3.trans S4) _ _ q2) q4 w4
  · have e : v3 = .bl false := q3
    refine ⟨false, e, ?_⟩
    rw [if_neg Bool.false_ne_true]
    exact w3.here R3 _ rfl
  · exact w3.elim
/-! ### sum, any, all, max, min of a list -/
def bools : List D → Option (List Bool)
  | [] => some []
  | .bl b :: r => (bools r).map (b :: ·)
  | _ => none
theorem bools_map (l : List Bool) : bools (l.map D.bl) = some l := by
  induction l with
  | nil => rfl
  | cons a r ih => simp [bools, ih]
theorem bools_ok {K : PySem.W.Frag} {ι : List Addr} {H : Hp} : ∀ {ds : List D} {vs : List V} {l : List Bool}, VRs K ι H ds vs → bools ds = some l → vs = l.map V.bl
  | [], vs, l, q, e => by cases e; exact VRs.nil_iff.mp q
  | d :: ds, vs, l, q, e => by
    obtain ⟨v, r, rfl, h1, h2⟩ := VRs.cons_iff.mp q
    cases d with
    | bl b =>
      simp only [bools] at e
      cases hb : bools ds with
      | none => rw [hb] at e; cases e
      | some l' =>
        rw [hb] at e
        cases e
        have e1 : v = .bl b := h1
        rw [e1, bools_ok h2 hb]; rfl
    | _ => cases e
theorem inz_ok {K : PySem.W.Frag} {ι : List Addr} {H : Hp} {ds : List D} {vs : List V} {l : List Int} (q : VRs K ι H ds vs) (e : inz ds = some l) : vs = l.map V.int := by
  have e1 := inz_eq e
  subst e1
  exact VRs.ints q
def sumD : List D → Hs → R D
  | [x], h => match lof h x with
    | some ds => match inz ds with
      | some l => .ok (.int l.sum) h
      | none => .no
    | none => .no
  | _, _ => .no
def anyD : List D → Hs → R D
  | [x], h => match lof h x with
    | some ds => match bools ds with
      | some l => .ok (.bl (l.any id)) h
      | none => .no
    | none => .no
  | _, _ => .no
def allD : List D → Hs → R D
  | [x], h => match lof h x with
    | some ds => match bools ds with
      | some l => .ok (.bl (l.all id)) h
      | none => .no
    | none => .no
  | _, _ => .no
theorem sim_sum : SimC g (rSum g.K) sumD := by
  intro H0 sp ι h H xs vs W Q R q w
  unfold sumD at w
  split at w
  · split at w
    · rename_i x ds e1
      split at w
      · rename_i l e2
        obtain ⟨v, rfl, q1⟩ := q.oneE
        obtain ⟨a, vs, rfl, p, r⟩ := lof_ok R q1 e1
        have e3 := inz_ok r e2
        subst e3
        exact ⟨a, l, rfl, SqL.of p, w.here R _ rfl⟩
      · exact w.elim
    · exact w.elim
  · exact w.elim
theorem sim_any : SimC g (rAny g.K) anyD := by
  intro H0 sp ι h H xs vs W Q R q w
  unfold anyD at w
  split at w
  · split at w
    · rename_i x ds e1
      split at w
      · rename_i l e2
        obtain ⟨v, rfl, q1⟩ := q.oneE
        obtain ⟨a, vs, rfl, p, r⟩ := lof_ok R q1 e1
        have e3 := bools_ok r e2
        subst e3
        exact ⟨a, l, rfl, SqL.of p, w.here R _ rfl⟩
      · exact w.elim
    · exact w.elim
  · exact w.elim
theorem sim_all : SimC g (rAll g.K) allD := by
  intro H0 sp ι h H xs vs W Q R q w
  unfold allD at w
  split at w
  · split at w
    · rename_i x ds e1
      split at w
      · rename_i l e2
        obtain ⟨v, rfl, q1⟩ := q.oneE
        obtain ⟨a, vs, rfl, p, r⟩ := lof_ok R q1 e1
        have e3 := bools_ok r e2
        subst e3
        exact ⟨a, l, rfl, SqL.of p, w.here R _ rfl⟩
      · exact w.elim
    · exact w.elim
  · exact w.elim
end
section
variable {X : Cx}
theorem kSum (K) (hc : X.calm = true) (h : X.K = K := by rfl) : CallR X (Value.builtin "sum") (rSum K) := h ▸ cr_sum hc
theorem kAny (K) (hc : X.calm = true) (h : X.K = K := by rfl) : CallR X (Value.builtin "any") (rAny K) := h ▸ cr_any hc
theorem kAll (K) (hc : X.calm = true) (h : X.K = K := by rfl) : CallR X (Value.builtin "all") (rAll K) := h ▸ cr_all hc
end
end PF
namespace PF
open PySem PySem.Spec PyProof.Rows L2
/-- code that the proof never comes to -/
def fNever : FS := fun _ _ => .no
section
variable {g : G} {W : Wx}
theorem sim_never : SimS g W tNever fNever := fun _ _ _ _ _ _ _ _ _ _ w => w
/-! ### range(a, b, c) as what is walked, c > 0 -/
def stepL (i c : Int) (n : Nat) : List D := (List.range n).map fun k => .int (i + (k : Nat) * c)
def fRng3 (fa : FA) : FI := fun env h => (fa env h).bnd fun xs h1 => match xs with
  | [.int i, .int j, .int c] => if c ≠ 0 ∧ c.natAbs < 1073741824 ∧ Builtin.Range.small i j c = true ∧ 0 ≤ Builtin.Range.rangeSize i j c then .ok ⟨stepL i c (Builtin.Range.rangeSize i j c).toNat, []⟩ h1 else .no
  | _ => .no
theorem wk_step {K : PySem.W.Frag} {H0 : Hp} {sp ι : List Addr} {H : Hp} {lo c : Int} {n : Nat} : Wk K H0 sp (Itc lo c n) ⟨stepL lo c n, []⟩ ι H := by
  intro ι1 h1 H1 R1 S1 _
  have len : (stepL lo c n).length = n := by simp [stepL]
  refine ⟨fun i hi => ⟨by show i < n; rw [← len]; exact hi, fun x H' y => ?_⟩, by show n ≤ (stepL lo c n).length; rw [len]; exact Nat.le_refl _⟩
  obtain ⟨rfl, rfl⟩ := y
  have hi' : i < n := by rw [← len]; exact hi
  exact ⟨.int (lo + (i : Nat) * c), by simp [stepL, hi'], ⟨R1, Stp.refl _ _⟩, rfl⟩
theorem VRs.threeE {K : PySem.W.Frag} {ι : List Addr} {H : Hp} {a b c : D} {vs : List V} (q : VRs K ι H [a, b, c] vs) : ∃ x y z, vs = [x, y, z] ∧ VR K ι H a x ∧ VR K ι H b y ∧ VR K ι H c z := by
  obtain ⟨x, r, rfl, h1, q⟩ := VRs.cons_iff.mp q
  obtain ⟨y, r, rfl, h2, q⟩ := VRs.cons_iff.mp q
  obtain ⟨z, r, rfl, h3, q⟩ := VRs.cons_iff.mp q
  rw [VRs.nil_iff.mp q]
  exact ⟨x, y, z, rfl, h1, h2, h3⟩
theorem sim_rng3 {ta : TA} {fa : FA} (ha : SimA g W ta fa) : SimI g W (iRng3 ta) (fRng3 fa) := by
  intro H0 sp ι h H env σ Q R E w
  refine ha H0 sp ι h H env σ _ R E (WP.bnd w fun xs h1 ι1 H1 R1 S1 w1 vs q => ?_)
  split at w1
  · obtain ⟨⟨c1, c2, c3, c4⟩, w1⟩ := ifN w1
    obtain ⟨x, y, z, rfl, e1, e2, e3⟩ := q.threeE
    have e1 : x = .int _ := e1
    have e2 : y = .int _ := e2
    have e3 : z = .int _ := e3
    subst e1 e2 e3
    exact ⟨_, _, _, _, rfl, ⟨c1, c2, c3, by omega⟩, w1.here R1 _ wk_step⟩
  · exact w1.elim
end
end PF
namespace PF
open PySem PySem.Spec PyProof.Rows L2
open PySem.W (AllAlike Sortable dataLe)
/-! ### sorted, over plain data -/
def dLe (a b : D) : Bool := dataLe false toPy a b
open Classical in
noncomputable def sortedD (xs : List D) (h : Hs) : R D := match xs with
  | [x] => match seqL h x with
    | some ds => if nors ds = true ∧ dpts ds ≤ 60 ∧ AllAlike (ds.map toPy) ∧ Sortable (ds.map toPy) then .ok (.ref h.length) (h ++ [.lst (ds.mergeSort dLe)]) else .no
    | none => .no
  | _ => .no
where seqL (h : Hs) (x : D) : Option (List D) := lof h x
theorem VRs.zip {K : PySem.W.Frag} {ι : List Addr} {H : Hp} : ∀ {ds : List D} {vs : List V}, VRs K ι H ds vs → ∀ p ∈ vs.zip ds, VR K ι H p.2 p.1
  | [], vs, h, p, m => by rw [VRs.nil_iff.mp h] at m; cases m
  | d :: ds, vs, h, p, m => by
    obtain ⟨v, r, rfl, h1, h2⟩ := VRs.cons_iff.mp h
    rw [List.zip_cons_cons] at m
    rcases List.mem_cons.mp m with z | z
    · subst z; exact h1
    · exact h2.zip p z
theorem VRs.of_zip {K : PySem.W.Frag} {ι : List Addr} {H : Hp} : ∀ {l : List (V × D)}, (∀ p ∈ l, VR K ι H p.2 p.1) → VRs K ι H (l.map Prod.snd) (l.map Prod.fst)
  | [], _ => VRs.nil_iff.mpr rfl
  | p :: l, h => .cons (h p List.mem_cons_self) (VRs.of_zip fun q m => h q (List.mem_cons_of_mem _ m))
theorem dpt_mem {d : D} : ∀ {l : List D}, d ∈ l → dpt d ≤ dpts l
  | a :: r, m => by
    rw [dpts]
    rcases List.mem_cons.mp m with z | z
    · subst z; omega
    · have := dpt_mem z; omega
theorem sim_sorted {g : G} : SimC g (SD.rSortDp g.K) sortedD := by
  intro H0 sp ι h H xs vs W Q R q w
  unfold sortedD at w
  split at w
  · split at w
    · rename_i x ds e1
      obtain ⟨v, rfl, q1⟩ := q.oneE
      obtain ⟨a, vs, rfl, p, r⟩ := lof_ok R q1 e1
      by_cases hc : nors ds = true ∧ dpts ds ≤ 60 ∧ AllAlike (ds.map toPy) ∧ Sortable (ds.map toPy)
      · rw [if_pos hc] at w
        obtain ⟨c1, c2, c3, c4⟩ := hc
        have hl := r.length
        have hz := r.zip
        have f1 : (vs.zip ds).map Prod.fst = vs := List.map_fst_zip (by omega)
        have f2 : (vs.zip ds).map Prod.snd = ds := List.map_snd_zip (by omega)
        have hm : ∀ p ∈ vs.zip ds, p.2 ∈ ds := fun p m => by rw [← f2]; exact List.mem_map_of_mem m
        have hn : ∀ p ∈ vs.zip ds, p.2.nor = true := fun p m => by
          have := c1
          rw [nors_all, List.all_eq_true] at this
          exact this _ (hm p m)
        refine ⟨a, (vs.zip ds).map fun p => (p.1, toPy p.2), rfl, ?_, ?_, ?_, ?_, ?_, ?_⟩
        · rw [List.map_map, show (Prod.fst ∘ fun p : V × D => (p.1, toPy p.2)) = Prod.fst from rfl, f1]; exact SqL.of p
        · intro p' m
          obtain ⟨p0, m0, rfl⟩ := List.mem_map.mp m
          exact (VR.dp _ _ (hn _ m0) (hz _ m0)).1
        · rw [List.map_map, show (Prod.snd ∘ fun p : V × D => (p.1, toPy p.2)) = toPy ∘ Prod.snd from rfl, ← List.map_map, f2]; exact c3
        · rw [List.map_map, show (Prod.snd ∘ fun p : V × D => (p.1, toPy p.2)) = toPy ∘ Prod.snd from rfl, ← List.map_map, f2]; exact c4
        · intro p' m
          obtain ⟨p0, m0, rfl⟩ := List.mem_map.mp m
          show (toPy p0.2).depth ≤ 60
          rw [toPy_depth]
          exact Nat.le_trans (dpt_mem (hm _ m0)) c2
        · intro n hq
          have m1 : ((vs.zip ds).map fun p => (p.1, toPy p.2)).mergeSort (dataLe false Prod.snd) = ((vs.zip ds).mergeSort fun p q => dLe p.2 q.2).map fun p => (p.1, toPy p.2) := (List.map_mergeSort (f := fun p : V × D => (p.1, toPy p.2)) (r := fun p q : V × D => dLe p.2 q.2) (s := dataLe false Prod.snd) (l := vs.zip ds) fun _ _ _ _ => rfl).symm
          have m2 : ds.mergeSort dLe = ((vs.zip ds).mergeSort fun p q => dLe p.2 q.2).map Prod.snd := by
            rw [List.map_mergeSort (s := dLe) (fun _ _ _ _ => rfl), f2]
          rw [m1, List.map_map, show (Prod.fst ∘ fun p : V × D => (p.1, toPy p.2)) = Prod.fst from rfl]
          rw [m2] at w
          have r' : VRs g.K ι H (((vs.zip ds).mergeSort fun p q => dLe p.2 q.2).map Prod.snd) (((vs.zip ds).mergeSort fun p q => dLe p.2 q.2).map Prod.fst) := VRs.of_zip fun p m => hz p (List.mem_mergeSort.mp m)
          obtain ⟨x1, x2⟩ := newL R r' hq
          exact w.at x1 _ x2
      · rw [if_neg hc] at w; exact w.elim
    · exact w.elim
  · exact w.elim
theorem kSorted {X : Cx} (K) (hu : X.A.units + 64 < cLine) (h : X.K = K := by rfl) : CallR X (Value.builtin "sorted") (SD.rSortDp K) := h ▸ SD.cr_sortedDp hu
end PF
namespace PF
open PySem PySem.Spec PyProof.Rows L2
open PySem.W (AlikeAll dataLt minD maxD)
/-! ### min, max of a list or a tuple of plain data -/
mutual
theorem toPy_inj : ∀ d e : D, d.nor = true → e.nor = true → toPy d = toPy e → d = e
  | .non, e, _, q, h => by cases e <;> first | rfl | (simp [D.nor] at q; done) | (simp only [toPy] at h; cases h)
  | .bl b, e, _, q, h => by cases e <;> first | (simp [D.nor] at q; done) | (simp [toPy] at h; subst h; rfl) | (simp only [toPy] at h; cases h)
  | .int b, e, _, q, h => by cases e <;> first | (simp [D.nor] at q; done) | (simp [toPy] at h; subst h; rfl) | (simp only [toPy] at h; cases h)
  | .str b, e, _, q, h => by cases e <;> first | (simp [D.nor] at q; done) | (simp [toPy] at h; subst h; rfl) | (simp only [toPy] at h; cases h)
  | .tup ds, e, p, q, h => by
    cases e with
    | tup es =>
      simp only [toPy, PyData.tuple.injEq] at h
      simp only [D.nor] at p q
      rw [toPys_inj ds es p q h]
    | _ => first | (simp only [toPy] at h; cases h) | (simp [D.nor] at q)
  | .lst ds, e, p, q, h => by
    cases e with
    | lst es =>
      simp only [toPy, PyData.list.injEq] at h
      simp only [D.nor] at p q
      rw [toPys_inj ds es p q h]
    | _ => first | (simp only [toPy] at h; cases h) | (simp [D.nor] at q)
  | .ref _, _, p, _, _ => by simp [D.nor] at p
  | .scr _, _, p, _, _ => by simp [D.nor] at p
  | .dct _ _, _, p, _, _ => by simp [D.nor] at p
theorem toPys_inj : ∀ ds es : List D, nors ds = true → nors es = true → toPys ds = toPys es → ds = es
  | [], [], _, _, _ => rfl
  | [], e :: es, _, _, h => by simp [toPys] at h
  | d :: ds, [], _, _, h => by simp [toPys] at h
  | d :: ds, e :: es, p, q, h => by
    rw [nors_cons, Bool.and_eq_true] at p q
    simp only [toPys, List.cons.injEq] at h
    rw [toPy_inj d e p.1 q.1 h.1, toPys_inj ds es p.2 q.2 h.2]
end
def dLt (a b : D) : Bool := dataLt (toPy a) (toPy b)
def best (lt : D → D → Bool) (x : D) (xs : List D) : D := xs.foldl (fun a y => if lt y a then y else a) x
theorem best_mem {lt : D → D → Bool} : ∀ (xs : List D) (x : D), best lt x xs ∈ x :: xs
  | [], x => List.mem_cons_self
  | y :: ys, x => by
    have h := best_mem (lt := lt) ys (if lt y x then y else x)
    show best lt (if lt y x then y else x) ys ∈ _
    rcases List.mem_cons.mp h with z | z
    · rw [z]; split <;> simp
    · simp [z]
theorem toPys_get : ∀ (ds : List D) (i : Nat), (toPys ds)[i]? = ds[i]?.map toPy
  | [], i => by simp [toPys]
  | d :: ds, 0 => by simp [toPys]
  | d :: ds, i + 1 => by simp [toPys, toPys_get ds i]
theorem best_min : ∀ (xs : List D) (x : D), toPy (best dLt x xs) = minD (toPy x) (toPys xs)
  | [], x => rfl
  | y :: ys, x => by
    show toPy (best dLt (if dLt y x then y else x) ys) = _
    rw [best_min ys]
    show _ = minD (if dataLt (toPy y) (toPy x) then toPy y else toPy x) (toPys ys)
    unfold dLt
    split <;> rfl
theorem best_max : ∀ (xs : List D) (x : D), toPy (best (fun a b => dLt b a) x xs) = maxD (toPy x) (toPys xs)
  | [], x => rfl
  | y :: ys, x => by
    show toPy (best (fun a b => dLt b a) (if dLt x y then y else x) ys) = _
    rw [best_max ys]
    show _ = maxD (if dataLt (toPy x) (toPy y) then toPy y else toPy x) (toPys ys)
    unfold dLt
    split <;> rfl
def sqof (h : Hs) : D → Option (List D)
  | .tup ds => some ds
  | x => lof h x
theorem sqof_ok {K : PySem.W.Frag} {H0 : Hp} {sp ι : List Addr} {h : Hs} {H : Hp} (R : Rel K H0 sp ι h H) {d : D} {v : V} {ds : List D} (q : VR K ι H d v) (e : sqof h d = some ds) : ∃ a vs, v = .ref a ∧ (SqL K H a vs ∨ SqT K H a vs) ∧ VRs K ι H ds vs := by
  cases d with
  | tup xs =>
    cases e
    unfold VR at q
    obtain ⟨a, vs, e1, e2, e3⟩ := q
    exact ⟨a, vs, e1, .inr (SqT.of e2), e3⟩
  | lst xs =>
    obtain ⟨a, vs, e1, e2, e3⟩ := lof_ok R q e
    exact ⟨a, vs, e1, .inl (SqL.of e2), e3⟩
  | ref n =>
    obtain ⟨a, vs, e1, e2, e3⟩ := lof_ok R q e
    exact ⟨a, vs, e1, .inl (SqL.of e2), e3⟩
  | _ => cases e
open Classical in
noncomputable def bestD (lt : D → D → Bool) : List D → Hs → R D
  | [x], h => match sqof h x with
    | some (y :: ys) => if nors (y :: ys) = true ∧ dpts (y :: ys) ≤ 60 ∧ AlikeAll (toPys (y :: ys)) then .ok (best lt y ys) h else .no
    | _ => .no
  | _, _ => .no
noncomputable def minLD : List D → Hs → R D := bestD dLt
noncomputable def maxLD : List D → Hs → R D := bestD fun a b => dLt b a
theorem VRs.at_ {K : PySem.W.Frag} {ι : List Addr} {H : Hp} : ∀ {ds : List D} {vs : List V} {i : Nat} {v : V} {d : D}, VRs K ι H ds vs → vs[i]? = some v → ds[i]? = some d → VR K ι H d v
  | [], vs, i, v, d, q, e, e' => by simp at e'
  | x :: ds, vs, i, v, d, q, e, e' => by
    obtain ⟨u, r, rfl, h1, h2⟩ := VRs.cons_iff.mp q
    cases i with
    | zero =>
      simp only [List.getElem?_cons_zero, Option.some.injEq] at e e'
      rw [← e, ← e']; exact h1
    | succ i =>
      simp only [List.getElem?_cons_succ] at e e'
      exact h2.at_ e e'
theorem sim_best {g : G} {bst : PyData → List PyData → PyData} {lt : D → D → Bool} (hb : ∀ xs x, toPy (best lt x xs) = bst (toPy x) (toPys xs)) : SimC g (MM.rBest g.K bst) (bestD lt) := by
  intro H0 sp ι h H xs vs W Q R q w
  unfold bestD at w
  split at w
  · split at w
    · rename_i x y ys e1
      obtain ⟨v, rfl, q1⟩ := q.oneE
      obtain ⟨a, vs, rfl, p, r⟩ := sqof_ok R q1 e1
      obtain ⟨⟨c1, c2, c3⟩, w⟩ := ifC w
      obtain ⟨d1, d2⟩ := VRs.dp _ _ c1 r
      have d3 : PyData.depthAll (toPys (y :: ys)) ≤ 60 := by rw [toPys_depth]; exact c2
      refine ⟨a, vs, toPy y, toPys ys, rfl, p, d1, d2, c3, d3, fun i v d ev ed eb => ?_⟩
      have ed : (toPys (y :: ys))[i]? = some d := ed
      rw [toPys_get] at ed
      cases e2 : (y :: ys)[i]? with
      | none => rw [e2] at ed; cases ed
      | some z =>
        rw [e2] at ed
        have e3 : toPy z = d := by simpa using ed
        have all := c1
        rw [nors_all, List.all_eq_true] at all
        have e4 : z = best lt y ys := toPy_inj _ _ (all _ (List.mem_of_getElem? e2)) (all _ (best_mem ys y)) (by rw [e3, eb, hb])
        exact w.here R _ (e4 ▸ r.at_ ev e2)
    · exact w.elim
  · exact w.elim
theorem sim_minL {g : G} : SimC g (MM.rBest g.K minD) minLD := sim_best best_min
theorem sim_maxL {g : G} : SimC g (MM.rBest g.K maxD) maxLD := sim_best best_max
theorem kMinL {X : Cx} (K) (hc : X.calm = true) (hu : X.A.units + 64 < cLine) (h : X.K = K := by rfl) : CallR X (Value.builtin "min") (MM.rBest K minD) := h ▸ MM.cr_minDp hc hu
theorem kMaxL {X : Cx} (K) (hc : X.calm = true) (hu : X.A.units + 64 < cLine) (h : X.K = K := by rfl) : CallR X (Value.builtin "max") (MM.rBest K maxD) := h ▸ MM.cr_maxDp hc hu
end PF
namespace PF
open PySem PySem.Spec PyProof.Rows L2
/-! ### a new list that nobody changes: a value -/
abbrev WF (h : Hs) : Prop := h.all (belO h.length) = true
def maskH (n : Nat) (h : Hs) : Hs := List.replicate n hid ++ h.drop n
def valR (h : Hs) (r : R D) : R D := match r with
  | .ok d h' => if (h'.take h.length).all (belO h.length) = true then match dcl (maskH h.length h') d with
    | some d' => .ok d' (h'.take h.length)
    | none => tmpR h r
    else tmpR h r
  | r => r
def fVal (fe : FE) : FE := fun env h => valR h (fe env h)
theorem mask_get {n : Nat} {h : Hs} {k : Nat} {o : Ob} (e : (maskH n h)[k]? = some o) (no : o ≠ hid) : n ≤ k ∧ h[k]? = some o := by
  unfold maskH at e
  by_cases c : k < n
  · rw [List.getElem?_append_left (by simpa using c)] at e
    have := List.mem_of_getElem? e
    rw [List.mem_replicate] at this
    exact absurd this.2 no
  · rw [List.getElem?_append_right (by simp; omega), List.length_replicate, List.getElem?_drop] at e
    exact ⟨by omega, by rw [show n + (k - n) = k by omega] at e; exact e⟩
section
variable {g : G} {H0 : Hp} {sp ι : List Addr} {h : Hs} {H : Hp} {W : Wx}
theorem valR_ok {r : R D} {Q : VK} (R : Rel g.K H0 sp ι h H) (w : WP g H0 sp W ι H (valR h r) fun d _ ι' H' => ∀ v, VR g.K ι' H' d v → Q v H') : WP g H0 sp W ι H r fun d _ ι' H' => ∀ v, VR g.K ι' H' d v → Q v H' := by
  cases r with
  | er e v h1 => exact w
  | no => exact w
  | ok d h' =>
    by_cases c : (h'.take h.length).all (belO h.length) = true
    · simp only [valR, if_pos c] at w
      cases hd : dcl (maskH h.length h') d with
      | none => simp only [hd] at w; exact tmpR_ok R w
      | some d' =>
        simp only [hd] at w
        intro ι' H' R' S' v q
        obtain ⟨RB, SB⟩ := R.backTo R' S' c
        refine w.at ⟨RB, SB⟩ v ?_
        have hno : ∀ (n : Nat) (a : Addr), h.length ≤ n → ι'[n]? = some a → a ∉ ι := fun n a k1 e1 m => by
          obtain ⟨i, hi⟩ := List.getElem?_of_mem m
          have := getElem?_inj' R'.nd (S'.pre i a hi) e1
          have hl := (List.getElem?_eq_some_iff.mp hi).1
          rw [R.len] at hl
          omega
        refine dcl_ok (h := maskH h.length h') (fun a m => ?_) (fun n ds e => ?_) (fun n kvs e hk => ?_) d v d' q hd
        · obtain ⟨i, hi⟩ := List.getElem?_of_mem m
          exact List.mem_of_getElem? (S'.pre i a hi)
        · obtain ⟨k1, k2⟩ := mask_get e (by intro z; cases z)
          obtain ⟨a, e1, vs, e2, e3⟩ := R'.ob n _ k2
          exact ⟨a, vs, e1, e2, e3, hno n a k1 e1⟩
        · obtain ⟨k1, k2⟩ := mask_get e (by intro z; cases z; simp [keyOf] at hk)
          obtain ⟨a, e1, us, e2, e3⟩ := R'.ob n _ k2
          exact ⟨a, us, e1, e2, e3, hno n a k1 e1⟩
    · simp only [valR, if_neg c] at w
      exact tmpR_ok R w
theorem sim_val {te : TE} {fe : FE} (he : SimE g W te fe) : SimE g W te (fVal fe) := fun H0 sp ι h H env σ Q R E w => he H0 sp ι h H env σ Q R E (valR_ok R w)
end
theorem tmp_nor {h : Hs} {d : D} (hd : d.nor = true) : tmpR h (.ok d h) = .ok d h := by
  unfold tmpR
  by_cases c : (h.take h.length).all (belO h.length) = true
  · simp only [if_pos c]
    by_cases p : d.pur = true
    · simp only [if_pos p, List.take_length]
    · simp only [if_neg p]
      cases d with
      | ref m => cases hd
      | _ => rfl
  · simp only [if_neg c]
theorem val_nor {h : Hs} {d : D} (hd : d.nor = true) : valR h (.ok d h) = .ok d h := by
  unfold valR
  dsimp only
  by_cases c : (h.take h.length).all (belO h.length) = true
  · rw [if_pos c, dcl_nor hd, List.take_length]
  · rw [if_neg c]; exact tmp_nor hd
theorem val_new {h junk : Hs} {ds : List D} {n : Nat} (hw : WF h) (hn : nors ds = true) (e : n = h.length + junk.length) : valR h (.ok (.ref n) (h ++ junk ++ [.lst ds])) = .ok (.lst ds) h := by
  subst e
  have e1 : (h ++ junk ++ [Ob.lst ds]).take h.length = h := by rw [List.append_assoc, List.take_left]
  have e2 : (maskH h.length (h ++ junk ++ [Ob.lst ds]))[h.length + junk.length]? = some (.lst ds) := by
    unfold maskH
    rw [List.getElem?_append_right (by simp), List.length_replicate, List.getElem?_drop, List.getElem?_append_right (by simp)]
    simp
  have e3 : dcl (maskH h.length (h ++ junk ++ [Ob.lst ds])) (.ref (h.length + junk.length)) = some (.lst ds) := dcl_ref e2 hn
  simp only [valR, e1, if_pos hw, e3]
theorem val_n {h : Hs} {ds : List D} (hw : WF h) (hn : nors ds = true) : valR h (.ok (.ref h.length) (h ++ [.lst ds])) = .ok (.lst ds) h := by
  have := val_new (junk := []) hw hn (n := h.length) rfl
  rwa [List.append_nil] at this
/-- a display -/
theorem val_lst {fa : FA} {env : En} {h : Hs} {ds : List D} (hw : WF h) (ha : fa env h = .ok ds h) (hn : nors ds = true) (hl : ds.length ≤ 16777216) : fVal (fLst fa) env h = .ok (.lst ds) h := by
  simp only [fVal, fLst, ha, bnd_ok, hl, if_true]
  exact val_n hw hn
mutual
theorem bel_le {n m : Nat} (e : n ≤ m) : ∀ d : D, bel n d = true → bel m d = true
  | .tup xs, h => by unfold bel at h ⊢; exact bels_le e xs h
  | .lst xs, h => by unfold bel at h ⊢; exact bels_le e xs h
  | .ref k, h => by
    unfold bel at h ⊢
    have := of_decide_eq_true h
    exact decide_eq_true (by omega)
  | .non, _ => rfl
  | .bl _, _ => rfl
  | .int _, _ => rfl
  | .str _, _ => rfl
  | .scr _, _ => rfl
  | .dct ks vs, h => by
    unfold bel at h ⊢
    rw [Bool.and_eq_true] at h ⊢
    exact ⟨bels_le e ks h.1, bels_le e vs h.2⟩
theorem bels_le {n m : Nat} (e : n ≤ m) : ∀ ds : List D, bels n ds = true → bels m ds = true
  | [], _ => rfl
  | d :: ds, h => by
    rw [bels_cons, Bool.and_eq_true] at h ⊢
    exact ⟨bel_le e d h.1, bels_le e ds h.2⟩
end
theorem belO_le {n m : Nat} (e : n ≤ m) {o : Ob} (h : belO n o = true) : belO m o = true := by
  cases o with
  | lst ds => exact bels_le e ds h
  | dct kvs =>
    have h' : (bels n (kvs.map Prod.fst) && bels n (kvs.map Prod.snd)) = true := h
    rw [Bool.and_eq_true] at h'
    show (bels m _ && bels m _) = true
    rw [bels_le e _ h'.1, bels_le e _ h'.2]; rfl
  | tb => rfl
  | dtt kvs => exact bels_le e _ h
/-- what a comprehension finds while it gathers: all objects there were, a new one at the end -/
structure Ext (h h' : Hs) : Prop where
  wf : WF h'
  get : ∀ (n : Nat) (o : Ob), h[n]? = some o → h'[n]? = some o
theorem WF.snoc {h : Hs} {ds : List D} (hw : WF h) (hn : nors ds = true) : WF (h ++ [.lst ds]) := by
  show (h ++ [Ob.lst ds]).all (belO (h ++ [Ob.lst ds]).length) = true
  rw [List.all_append]
  simp only [List.all_cons, List.all_nil, Bool.and_true, Bool.and_eq_true]
  refine ⟨?_, ?_⟩
  · have hw : h.all (belO h.length) = true := hw
    rw [List.all_eq_true] at hw ⊢
    intro o m
    have := hw o m
    rw [List.length_append]
    exact belO_le (Nat.le_add_right _ _) this
  · exact bels_nors _ _ hn
/-- a comprehension as a value -/
theorem val_lc {fi : FI} {fg : FG} {fc : FT} {fe : FE} {vs : List Nat} {env : En} {h0 : Hs} {l : List D} {gd : List (Nat × List D)} (f : D → Option D) (hw : WF h0) (hi : fi env h0 = .ok ⟨l, gd⟩ h0) (hg : ∀ p ∈ gd, h0[p.1]? = some (.lst p.2)) (hl : l.length ≤ 16777216)
    (hs : ∀ d ∈ l, ∀ h, Ext h0 h → ∃ e, fg d (wipeE env vs) h = .ok e h ∧ (match f d with
      | some y => fc e h = .ok true h ∧ fe e h = .ok y h ∧ y.nor = true
      | none => fc e h = .ok false h)) :
    fVal (fLc fi fg fc fe vs) env h0 = .ok (.lst (l.filterMap f)) h0 := by
  have hn : nors (l.filterMap f) = true := nors_of fun y m => by
    obtain ⟨d, m1, m2⟩ := List.mem_filterMap.mp m
    obtain ⟨e, _, q⟩ := hs d m1 h0 ⟨hw, fun _ _ z => z⟩
    rw [m2] at q
    exact q.2.2
  obtain ⟨h', z1, ⟨acc', rfl, nz⟩, z3⟩ := lc_gives (fg := fg) (fc := fc) (fe := fe) (s := ⟨l, gd⟩) (n := h0.length) (env := wipeE env vs) (fun h => ∃ acc, h = h0 ++ [.lst acc] ∧ nors acc = true) (fun h i p m => by
      obtain ⟨acc, rfl, _⟩ := i
      have := hg p m
      rw [List.getElem?_append_left (by exact (List.getElem?_eq_some_iff.mp this).1)]; exact this) f l (h0 ++ [.lst []]) [] ⟨_, rfl, rfl⟩ (by simp) (by simpa using hl) (fun d m h acc il hn => by
      obtain ⟨acc0, rfl, n0⟩ := il
      obtain ⟨e, q1, q2⟩ := hs d m (h0 ++ [.lst acc0]) ⟨hw.snoc n0, fun n o z => by rw [List.getElem?_append_left (List.getElem?_eq_some_iff.mp z).1]; exact z⟩
      refine ⟨e, _, h0 ++ [.lst acc0], q1, ?_⟩
      cases hf : f d with
      | none => rw [hf] at q2; exact ⟨q2, hn, _, rfl, n0⟩
      | some y =>
        rw [hf] at q2
        refine ⟨q2.1, _, q2.2.1, hn, _, by simp; rfl, ?_⟩
        have : acc0 = acc := by
          rw [List.getElem?_append_right (by omega)] at hn
          simp at hn
          exact hn
        subst this
        rw [nors_append, n0]; simp [q2.2.2])
  have z4 : acc' = l.filterMap f := by
    rw [List.getElem?_append_right (by omega)] at z3
    simp at z3
    exact z3
  subst z4
  unfold fVal fLc
  rw [hi]
  simp only [bnd_ok]
  rw [z1]
  simp only [bnd_ok]
  exact val_n hw hn
theorem val_lm {fi : FI} {fg : FG} {fe : FE} {vs : List Nat} {env : En} {h0 : Hs} {l : List D} {gd : List (Nat × List D)} (f : D → D) (hw : WF h0) (hi : fi env h0 = .ok ⟨l, gd⟩ h0) (hg : ∀ p ∈ gd, h0[p.1]? = some (.lst p.2)) (hl : l.length ≤ 16777216)
    (hs : ∀ d ∈ l, ∀ h, Ext h0 h → ∃ e, fg d (wipeE env vs) h = .ok e h ∧ fe e h = .ok (f d) h ∧ (f d).nor = true) :
    fVal (fLc fi fg fYes fe vs) env h0 = .ok (.lst (l.map f)) h0 := by
  rw [← fm_map]
  exact val_lc (fun d => some (f d)) hw hi hg hl fun d m h x => by
    obtain ⟨e, q1, q2⟩ := hs d m h x
    exact ⟨e, q1, rfl, q2⟩
end PF
namespace PF
open PySem PySem.Spec PyProof.Rows L2
/-! ### the law's frame: the bag, its cells, objects without references -/
def obNor : Ob → Bool
  | .lst ds => nors ds
  | .dct kvs => nors (kvs.map Prod.fst) && nors (kvs.map Prod.snd)
  | .tb => true
  | .dtt kvs => nors (kvs.map Prod.snd)
theorem obNor_bel (n : Nat) : ∀ o : Ob, obNor o = true → belO n o = true
  | .lst ds, h => bels_nors n ds h
  | .dct kvs, h => by
    have h' : (nors (kvs.map Prod.fst) && nors (kvs.map Prod.snd)) = true := h
    rw [Bool.and_eq_true] at h'
    show (bels n _ && bels n _) = true
    rw [bels_nors n _ h'.1, bels_nors n _ h'.2]; rfl
  | .tb, _ => rfl
  | .dtt kvs, h => bels_nors n _ h
theorem nor_bel (n : Nat) {r : Hs} (h : r.all obNor = true) : r.all (belO n) = true := by
  rw [List.all_eq_true] at h ⊢
  exact fun o m => obNor_bel n o (h o m)
inductive A2 {α β : Type} (P : α → β → Prop) : List α → List β → Prop
  | nil : A2 P [] []
  | cons {a b l m} : P a b → A2 P l m → A2 P (a :: l) (b :: m)
theorem A2.length_eq {α β : Type} {P : α → β → Prop} {l : List α} {m : List β} (h : A2 P l m) : l.length = m.length := by
  induction h with
  | nil => rfl
  | cons _ _ ih => simp [ih]
theorem A2.append {α β : Type} {P : α → β → Prop} {l l' : List α} {m m' : List β} (h : A2 P l m) (h' : A2 P l' m') : A2 P (l ++ l') (m ++ m') := by
  induction h with
  | nil => exact h'
  | cons p _ ih => exact .cons p ih
structure Frm (m : Nat) (fr : Bn → Hs → Hs) : Prop where
  app : ∀ b r t, fr b (r ++ t) = fr b r ++ t
  len : ∀ b r, (fr b r).length = r.length + m
  bel : ∀ n b r, m ≤ n → r.all (belO n) = true → (fr b r).all (belO n) = true
theorem frm_BH (cs : List Int) : Frm 2 (BH cs) := ⟨fun _ _ _ => rfl, fun _ _ => rfl, fun n b r hn h => all_BH n hn cs b r h⟩
theorem frm_BG (cs : List Int) : Frm 2 (BG cs) := ⟨fun _ _ _ => rfl, fun _ _ => rfl, fun n b r hn h => all_BG n hn cs b r h⟩
section
variable {m : Nat} {fr : Bn → Hs → Hs} (F : Frm m fr) {b b' : Bn} {r junk : Hs}
include F
theorem Frm.wf (h : r.all obNor = true) : WF (fr b r) := F.bel _ b r (by rw [F.len]; omega) (nor_bel _ h)
theorem Frm.tmp {d : D} (hd : d.pur = true) (h : r.all obNor = true) : tmpR (fr b r) (.ok d (fr b' (r ++ junk))) = .ok d (fr b' r) :=
  tmp_pur hd (by rw [F.app, show (fr b r).length = (fr b' r).length by rw [F.len, F.len], List.take_left]) (F.bel _ b' r (by rw [F.len]; omega) (nor_bel _ h))
theorem Frm.tmp' {d : D} (hd : d.pur = true) (h : r.all obNor = true) : tmpR (fr b r) (.ok d (fr b' r)) = .ok d (fr b' r) := by
  have := F.tmp (b := b) (b' := b') (junk := []) hd h
  rwa [List.append_nil] at this
theorem Frm.tmpB {d : Bool} (h : r.all obNor = true) : tmpB (fr b r) (.ok d (fr b' (r ++ junk))) = .ok d (fr b' r) :=
  tmpB_cut (by rw [F.app, show (fr b r).length = (fr b' r).length by rw [F.len, F.len], List.take_left]) (F.bel _ b' r (by rw [F.len]; omega) (nor_bel _ h))
theorem Frm.tmpB' {d : Bool} (h : r.all obNor = true) : PF.tmpB (fr b r) (.ok d (fr b' r)) = .ok d (fr b' r) := by
  have := F.tmpB (b := b) (b' := b') (junk := []) (d := d) h
  rwa [List.append_nil] at this
theorem Frm.val {d : D} (hd : d.nor = true) (h : r.all obNor = true) : valR (fr b r) (.ok d (fr b' (r ++ junk))) = .ok d (fr b' r) := by
  have e1 : (fr b' (r ++ junk)).take (fr b r).length = fr b' r := by rw [F.app, show (fr b r).length = (fr b' r).length by rw [F.len, F.len], List.take_left]
  have e2 := F.bel (fr b r).length b' r (by rw [F.len]; omega) (nor_bel _ h)
  unfold valR
  dsimp only
  rw [e1, if_pos e2, dcl_nor hd]
theorem Frm.val' {d : D} (hd : d.nor = true) (h : r.all obNor = true) : valR (fr b r) (.ok d (fr b' r)) = .ok d (fr b' r) := by
  have := F.val (b := b) (b' := b') (junk := []) hd h
  rwa [List.append_nil] at this
theorem Frm.new {n : Nat} {ds : List D} (hn : nors ds = true) (h : r.all obNor = true) (e : n = r.length + m + junk.length) : valR (fr b r) (.ok (.ref n) (fr b' (r ++ junk ++ [.lst ds]))) = .ok (.lst ds) (fr b' r) := by
  have e1 : (fr b' (r ++ junk ++ [.lst ds])).take (fr b r).length = fr b' r := by rw [List.append_assoc, F.app, show (fr b r).length = (fr b' r).length by rw [F.len, F.len], List.take_left]
  have e2 := F.bel (fr b r).length b' r (by rw [F.len]; omega) (nor_bel _ h)
  have e3 : (maskH (fr b r).length (fr b' (r ++ junk ++ [.lst ds])))[n]? = some (.lst ds) := by
    subst e
    unfold maskH
    rw [F.app, F.app, F.len, List.getElem?_append_right (by simp), List.length_replicate, List.getElem?_drop, List.getElem?_append_right (by simp [F.len])]
    simp [F.len]
  unfold valR
  dsimp only
  rw [e1, if_pos e2, dcl_ref e3 hn]
theorem Frm.new' {n : Nat} {ds : List D} (hn : nors ds = true) (h : r.all obNor = true) (e : n = r.length + m) : valR (fr b r) (.ok (.ref n) (fr b' (r ++ [.lst ds]))) = .ok (.lst ds) (fr b' r) := by
  have := F.new (b := b) (b' := b') (junk := []) hn h (n := n) (by simpa using e)
  rwa [List.append_nil] at this
/-- a comprehension whose items are drawn -/
theorem Frm.draw {fi : FI} {fg : FG} {fe : FE} {vs : List Nat} {env : En} {l : List D} (P : D → D → Prop) (h : r.all obNor = true) (hl : l.length ≤ 16777216) (hi : fi env (fr b r) = .ok ⟨l, []⟩ (fr b' r))
    (hs : ∀ d ∈ l, ∀ (b1 : Bn) (t : Hs), t.all obNor = true → ∃ e y b2, fg d (wipeE env vs) (fr b1 (r ++ t)) = .ok e (fr b1 (r ++ t)) ∧ fe e (fr b1 (r ++ t)) = .ok y (fr b2 (r ++ t)) ∧ P d y ∧ y.nor = true) :
    ∃ ys b2, fVal (fLc fi fg fYes fe vs) env (fr b r) = .ok (.lst ys) (fr b2 r) ∧ A2 P l ys := by
  obtain ⟨acc', h', z1, done, b2, hd, rfl, hf, hn⟩ := lc_rel (fg := fg) (fc := fYes) (fe := fe) (s := ⟨l, []⟩) (n := r.length + m) (env := wipeE env vs)
    (fun rem acc h => ∃ done b2, done ++ rem = l ∧ h = fr b2 (r ++ [.lst acc]) ∧ A2 P done acc ∧ nors acc = true)
    (fun rem acc h i => by
      obtain ⟨done, b2, hd, rfl, hf, _⟩ := i
      refine ⟨good_nil _ _, ?_, ?_⟩
      · rw [F.app, List.getElem?_append_right (by rw [F.len]; omega), F.len]; simp
      · have := congrArg List.length hd
        rw [List.length_append, hf.length_eq] at this
        omega)
    (fun d rem acc h i => by
      obtain ⟨done, b1, hd, rfl, hf, hn⟩ := i
      obtain ⟨e, y, b2, q1, q2, q3, q4⟩ := hs d (by rw [← hd]; simp) b1 [.lst acc] (by simp [obNor, hn])
      refine ⟨e, _, q1, true, _, rfl, (fun z => by cases z), fun _ => ⟨y, _, q2, ?_, done ++ [d], b2, by rw [← hd]; simp, ?_, ?_, ?_⟩⟩
      · rw [F.app, List.getElem?_append_right (by rw [F.len]; omega), F.len]; simp
      · rw [F.app, F.app, List.set_append_right _ _ (by rw [F.len]; omega), F.len]
        simp
      · exact hf.append (.cons q3 .nil)
      · rw [nors_append, hn]; simp [q4])
    l [] (fr b' (r ++ [.lst []])) ⟨[], b', rfl, rfl, .nil, rfl⟩
  rw [List.append_nil] at hd
  subst hd
  refine ⟨acc', b2, ?_, hf⟩
  unfold fVal fLc
  rw [hi]
  simp only [bnd_ok]
  rw [F.len, ← F.app, z1]
  simp only [bnd_ok]
  exact F.new' hn h rfl
end
theorem Frm.ok_all {P : D → D → Prop} {l ys : List D} (h : A2 P l ys) : ∀ y ∈ ys, ∃ d ∈ l, P d y := by
  induction h with
  | nil => intro y m; cases m
  | cons p _ ih =>
    intro y m
    rcases List.mem_cons.mp m with z | z
    · subst z; exact ⟨_, List.mem_cons_self, p⟩
    · obtain ⟨d, m1, m2⟩ := ih y z
      exact ⟨d, List.mem_cons_of_mem _ m1, m2⟩
/-- the law's frame: a number drawn -/
theorem drawH {F : List D → List Int → Bn → RB} (hF : ∀ many, 1 ≤ many → many < 1073741824 → ∀ cs b, List.length cs ≤ 63 → ∃ v b', F [.int many] cs b = .val (.int v) b' ∧ 0 ≤ v ∧ v < many) {cs : List Int} (hc : cs.length ≤ 63) (m : Nat) (h1 : 1 ≤ m) (h2 : m < 1073741824) (env : En) (he : env[1]? = some (some (.ref 1))) (b : Bn) (R : Hs) :
    ∃ (v : Nat) (b' : Bn), v < m ∧ fCallB F (fCons (fVar 1) (fCons (fC (.int m)) fNil)) env (BH cs b R) = .ok (.int v) (BH cs b' R) := by
  obtain ⟨v, b', e, v0, v1⟩ := hF m (by omega) (by omega) cs b hc
  obtain ⟨k, rfl⟩ := Int.eq_ofNat_of_zero_le v0
  refine ⟨k, b', by omega, ?_⟩
  exact callB_ev (ds := [.int m]) (r := [.int m]) (by simp only [fCons, fVar, he, bnd_ok, fC, fNil]) (dall_nor _ _ rfl) e
theorem BH_wf {cs : List Int} {b : Bn} {r : Hs} (h : r.all obNor = true) : WF (BH cs b r) := (frm_BH cs).wf h
/-- an argument that is a list of the frame, an argument that is a value: the call of _law_alike -/
theorem alkV {F : List D → RP} (hF : ∀ x : D, x.nor = true → dsz x ≤ 16777216 → F [x, x] = .val (.bl true)) {fa : FA} {env : En} {h : Hs} {x : D} (h1 : fa env h = .ok [x, x] h) (hn : x.nor = true) (hs : dsz x ≤ 16777216) : fCall F fa env h = .ok (.bl true) h :=
  call_val (ds := [x, x]) h1 (dall_nor _ _ (by simp [hn])) (hF x hn hs)
end PF
namespace PF
open PySem PySem.Spec PyProof.Rows L2
/-! ### dicts whose keys are ints and texts -/
def keqD : D → D → Bool
  | .int i, .int j => i == j
  | .str s, .str t => s == t
  | _, _ => false
theorem keq_key {a b : D} {k k' : Key} (e : keyOf a = some k) (e' : keyOf b = some k') : (keqD a b = true) = (k = k') := by
  cases a with
  | int i =>
    cases e
    cases b with
    | int j => cases e'; simp [keqD]
    | str s => cases e'; simp [keqD]
    | _ => cases e'
  | str s =>
    cases e
    cases b with
    | int j => cases e'; simp [keqD]
    | str t => cases e'; simp [keqD, mk]
    | _ => cases e'
  | _ => cases e
def getK (kvs : List (D × D)) (k : D) : Option D := (kvs.find? fun p => keqD p.1 k).map Prod.snd
def putD (kvs : List (D × D)) (k v : D) : List (D × D) := if (kvs.any fun p => keqD p.1 k) = true then kvs.map (fun p => if keqD p.1 k = true then (p.1, v) else p) else kvs ++ [(k, v)]
def dof (h : Hs) : D → Option (List (D × D))
  | .ref n => match h[n]? with
    | some (.dct kvs) => some kvs
    | _ => none
  | .dct ks vs => some (ks.zip vs)
  | _ => none
section
variable {K : PySem.W.Frag} {H0 : Hp} {sp ι : List Addr} {h : Hs} {H : Hp}
theorem KVR.cons_iff {p : D × D} {kvs : List (D × D)} {us : List (Key × V)} : KVR K ι H (p :: kvs) us ↔ ∃ q r, us = q :: r ∧ keyOf p.1 = some q.1 ∧ VR K ι H p.1 (kV q.1) ∧ VR K ι H p.2 q.2 ∧ KVR K ι H kvs r := by
  constructor
  · rintro ⟨h1, h2, h3⟩
    cases us with
    | nil => simp at h1
    | cons q r =>
      rw [List.map_cons, List.map_cons, List.cons.injEq] at h1
      rw [List.map_cons, List.map_cons] at h2 h3
      obtain ⟨v, t, e1, a1, a2⟩ := VRs.cons_iff.mp h2
      obtain ⟨v', t', e2, b1, b2⟩ := VRs.cons_iff.mp h3
      cases e1
      cases e2
      exact ⟨q, r, rfl, h1.1, a1, b1, h1.2, a2, b2⟩
  · rintro ⟨q, r, rfl, h1, h2, h3, k1, k2, k3⟩
    refine ⟨?_, ?_, ?_⟩
    · rw [List.map_cons, List.map_cons, h1, k1]
    · exact .cons h2 k2
    · exact .cons h3 k3
theorem KVR.nil : KVR K ι H [] [] := ⟨rfl, rfl, rfl⟩
theorem KVR.length : ∀ {kvs : List (D × D)} {us : List (Key × V)}, KVR K ι H kvs us → kvs.length = us.length := fun {kvs us} q => by
  have := congrArg List.length q.1
  simpa using this
theorem KVR.get {k : D} {k' : Key} (hk : keyOf k = some k') : ∀ {kvs : List (D × D)} {us : List (Key × V)}, KVR K ι H kvs us → (∀ v, getK kvs k = some v → ∃ v', valV us k' = some v' ∧ VR K ι H v v') ∧ (getK kvs k = none → valV us k' = none)
  | [], us, q => by
    have e : us = [] := List.eq_nil_of_length_eq_zero q.length.symm
    subst e
    exact ⟨fun v e => (by cases e), fun _ => rfl⟩
  | p :: kvs, us, q => by
    obtain ⟨r, us', rfl, h1, h2, h3, q'⟩ := KVR.cons_iff.mp q
    obtain ⟨i1, i2⟩ := KVR.get hk q'
    have e := keq_key h1 hk
    by_cases c : keqD p.1 k = true
    · have c' : r.1 = k' := by rw [e] at c; exact c
      refine ⟨fun v z => ?_, fun z => ?_⟩
      · unfold getK at z
        rw [List.find?_cons, c] at z
        cases z
        exact ⟨r.2, valV_pos c', h3⟩
      · unfold getK at z
        rw [List.find?_cons, c] at z
        cases z
    · have c' : ¬ r.1 = k' := by rw [← e]; exact c
      have cf : keqD p.1 k = false := by simpa using c
      have g : getK (p :: kvs) k = getK kvs k := by
        unfold getK
        rw [List.find?_cons, cf]
      rw [g, valV_neg c']
      exact ⟨i1, i2⟩
theorem KVR.app {kvs : List (D × D)} {us : List (Key × V)} {p : D × D} {q : Key × V} (h : KVR K ι H kvs us) (h1 : keyOf p.1 = some q.1) (h2 : VR K ι H p.1 (kV q.1)) (h3 : VR K ι H p.2 q.2) : KVR K ι H (kvs ++ [p]) (us ++ [q]) := by
  obtain ⟨k1, k2, k3⟩ := h
  refine ⟨?_, ?_, ?_⟩
  · simp [k1, h1]
  · simp only [List.map_append, List.map_cons, List.map_nil]
    exact k2.app (.one h2)
  · simp only [List.map_append, List.map_cons, List.map_nil]
    exact k3.app (.one h3)
theorem KVR.map {k v : D} {k' : Key} {v' : V} (hk : keyOf k = some k') (hv : VR K ι H v v') : ∀ {kvs : List (D × D)} {us : List (Key × V)}, KVR K ι H kvs us → KVR K ι H (kvs.map fun p => if keqD p.1 k = true then (p.1, v) else p) (us.map fun kv => if kv.1 = k' then (kv.1, v') else kv)
  | [], us, q => by
    have e : us = [] := List.eq_nil_of_length_eq_zero q.length.symm
    subst e
    exact .nil
  | p :: kvs, us, q => by
    obtain ⟨r, us', rfl, h1, h2, h3, q'⟩ := KVR.cons_iff.mp q
    have e := keq_key h1 hk
    rw [List.map_cons, List.map_cons]
    by_cases c : keqD p.1 k = true
    · rw [if_pos c, if_pos (e ▸ c)]
      exact KVR.cons_iff.mpr ⟨_, _, rfl, h1, h2, hv, KVR.map hk hv q'⟩
    · rw [if_neg c, if_neg (e ▸ c)]
      exact KVR.cons_iff.mpr ⟨_, _, rfl, h1, h2, h3, KVR.map hk hv q'⟩
theorem KVR.any {k : D} {k' : Key} (hk : keyOf k = some k') : ∀ {kvs : List (D × D)} {us : List (Key × V)}, KVR K ι H kvs us → (kvs.any fun p => keqD p.1 k) = (us.any fun kv => decide (kv.1 = k'))
  | [], us, q => by
    have e : us = [] := List.eq_nil_of_length_eq_zero q.length.symm
    subst e
    rfl
  | p :: kvs, us, q => by
    obtain ⟨r, us', rfl, h1, h2, h3, q'⟩ := KVR.cons_iff.mp q
    rw [List.any_cons, List.any_cons, KVR.any hk q']
    congr 1
    rw [Bool.eq_iff_iff, decide_eq_true_eq, keq_key h1 hk]
theorem KVR.put {k v : D} {k' : Key} {v' : V} {kvs : List (D × D)} {us : List (Key × V)} (q : KVR K ι H kvs us) (hk : keyOf k = some k') (hkv : VR K ι H k (kV k')) (hv : VR K ι H v v') : KVR K ι H (putD kvs k v) (putK us k' v') := by
  unfold putD putK
  rw [q.any hk]
  split
  · exact q.map hk hv
  · exact q.app hk hkv hv
theorem dof_ok (R : Rel K H0 sp ι h H) {d : D} {v : V} {kvs : List (D × D)} (q : VR K ι H d v) (e : dof h d = some kvs) : ∃ a us, v = .ref a ∧ H a = some (.dK us) ∧ KVR K ι H kvs us := by
  cases d with
  | dct ks vs =>
    cases e
    unfold VR at q
    obtain ⟨a, us, rfl, e2, _, k1, k2, k3⟩ := q
    have l1 := k2.length
    have l2 := k3.length
    simp only [List.length_map] at l1 l2
    refine ⟨a, us, rfl, e2, ?_, ?_, ?_⟩
    · rw [show (fun p : D × D => keyOf p.1) = keyOf ∘ Prod.fst from rfl, ← List.map_map, List.map_fst_zip (by omega)]
      exact k1
    · rw [List.map_fst_zip (by omega)]; exact k2
    · rw [List.map_snd_zip (by omega)]; exact k3
  | ref n =>
    unfold VR at q
    obtain ⟨a, rfl, e2⟩ := q
    unfold dof at e
    cases hn : h[n]? with
    | none => simp only [hn] at e; cases e
    | some o =>
      cases o with
      | lst xs => simp only [hn] at e; cases e
      | tb => simp only [hn] at e; cases e
      | dtt b => simp only [hn] at e; cases e
      | dct kvs' =>
        simp only [hn] at e
        cases e
        obtain ⟨b, e3, us, e4, e5⟩ := R.ob n _ hn
        rw [e2] at e3
        cases e3
        exact ⟨a, us, rfl, e4, e5⟩
  | _ => cases e
end
section
variable {X : Cx} {g : G}
/-! ### d[k], k in d -/
def rIxDk : R2 := fun x y H Q => ∃ a v, x = .ref a ∧ DGet H a y (some v) ∧ Q v H
theorem ix_dk (hu : X.A.units + 1 < cLine) : IxR X rIxDk := by
  intro value slice pins s σ H x y v u Q I rx ry h hs
  obtain ⟨a, w, rfl, gg, q⟩ := h
  obtain rfl : v = Value.ref a := rx
  exact tail_any (dict_typeIs I gg) PySem.F.slot_dict_getitem.lookup (d_getItem hu I gg ry fun w' s3 I3 rw' => ⟨w, H, I3, rw', q⟩) hs
def uIx (K : PySem.W.Frag) : R2 := fun x y H Q => rIx K x y H Q ∨ rIxDk x y H Q
theorem kIxA (K) {k : Nat} (hr : Room k X.A) (h : X.K = K := by rfl) : IxR X (uIx K) := h ▸ IxR.or ix_seq (ix_dk (by have := hr.un; omega))
def ixA (x y : D) (h : Hs) : R D := match dof h x with
  | some kvs => match keyOf y, getK kvs y with
    | some _, some v => .ok v h
    | _, _ => .no
  | none => ixD x y h
theorem keyV {K : PySem.W.Frag} {ι : List Addr} {H : Hp} {y : D} {v : V} {k : Key} (q : VR K ι H y v) (e : keyOf y = some k) : v = kV k := by
  cases y with
  | int i => cases e; exact q
  | str s =>
    cases e
    exact q.strE.1
  | _ => cases e
theorem sim_ixA : SimR2 g (uIx g.K) ixA := by
  intro H0 sp ι h H x y vx vy W Q R qx qy w
  unfold ixA at w
  split at w
  · rename_i kvs e1
    split at w
    · rename_i k v e2 e3
      obtain ⟨a, us, rfl, e4, q⟩ := dof_ok R qx e1
      obtain ⟨v', e5, qv⟩ := (q.get e2).1 v e3
      refine .inr ⟨a, v', rfl, ?_, w.here R v' qv⟩
      rw [keyV qy e2, ← e5]
      exact DGet.k e4
    · exact w.elim
  · exact .inl (sim_ix H0 sp ι h H x y vx vy W Q R qx qy w)
def rInDk (neg : Bool) : R2 := fun x y H Q => ∃ a o, y = .ref a ∧ DGet H a x o ∧ Q (.bl (if neg = true then !o.isSome else o.isSome)) H
theorem op_inDk (hu : X.A.units + 1 < cLine) : OpR X (compareOp .In) (rInDk false) := by
  intro pins s σ H x y v u Q I rx ry h
  obtain ⟨a, o, rfl, gg, q⟩ := h
  obtain rfl : u = Value.ref a := ry
  exact d_in hu I gg rx fun s' I' => ⟨.bl o.isSome, H, I', rfl, q⟩
theorem op_notInDk (hu : X.A.units + 1 < cLine) : OpR X (compareOp .NotIn) (rInDk true) := by
  intro pins s σ H x y v u Q I rx ry h
  obtain ⟨a, o, rfl, gg, q⟩ := h
  obtain rfl : u = Value.ref a := ry
  exact d_notIn hu I gg rx fun s' I' => ⟨.bl (!o.isSome), H, I', rfl, q⟩
def uInA (K : PySem.W.Frag) : R2 := fun x y H Q => uIn K x y H Q ∨ rInDk false x y H Q
def uNotInA (K : PySem.W.Frag) : R2 := fun x y H Q => uNotIn K x y H Q ∨ rInDk true x y H Q
theorem kInA (K) {k : Nat} (hu : Room k X.A) (h : X.K = K := by rfl) : OpR X (compareOp CmpOp.In) (uInA K) := h ▸ (op_uIn hu).or (op_inDk (by have := hu.un; omega))
theorem kNotInA (K) {k : Nat} (hu : Room k X.A) (h : X.K = K := by rfl) : OpR X (compareOp CmpOp.NotIn) (uNotInA K) := h ▸ (op_uNotIn hu).or (op_notInDk (by have := hu.un; omega))
def inA (x y : D) (h : Hs) : R D := match dof h y with
  | some kvs => match keyOf x with
    | some _ => .ok (.bl (getK kvs x).isSome) h
    | none => .no
  | none => inD x y h
def notInA (x y : D) (h : Hs) : R D := match dof h y with
  | some kvs => match keyOf x with
    | some _ => .ok (.bl (!(getK kvs x).isSome)) h
    | none => .no
  | none => notInD x y h
theorem getK_some {K : PySem.W.Frag} {ι : List Addr} {H : Hp} {k : D} {k' : Key} {kvs : List (D × D)} {us : List (Key × V)} (q : KVR K ι H kvs us) (hk : keyOf k = some k') : (valV us k').isSome = (getK kvs k).isSome := by
  obtain ⟨i1, i2⟩ := q.get hk
  cases e : getK kvs k with
  | none => rw [i2 e]; rfl
  | some v =>
    obtain ⟨v', e', _⟩ := i1 v e
    rw [e']; rfl
theorem sim_inA : SimR2 g (uInA g.K) inA := by
  intro H0 sp ι h H x y vx vy W Q R qx qy w
  unfold inA at w
  split at w
  · rename_i kvs e1
    split at w
    · rename_i k e2
      obtain ⟨a, us, rfl, e4, q⟩ := dof_ok R qy e1
      refine .inr ⟨a, valV us k, rfl, ?_, ?_⟩
      · rw [keyV qx e2]; exact DGet.k e4
      · rw [if_neg Bool.false_ne_true, getK_some q e2]
        exact w.here R _ rfl
    · exact w.elim
  · exact .inl (sim_in H0 sp ι h H x y vx vy W Q R qx qy w)
theorem sim_notInA : SimR2 g (uNotInA g.K) notInA := by
  intro H0 sp ι h H x y vx vy W Q R qx qy w
  unfold notInA at w
  split at w
  · rename_i kvs e1
    split at w
    · rename_i k e2
      obtain ⟨a, us, rfl, e4, q⟩ := dof_ok R qy e1
      refine .inr ⟨a, valV us k, rfl, ?_, ?_⟩
      · rw [keyV qx e2]; exact DGet.k e4
      · rw [if_pos rfl, getK_some q e2]
        exact w.here R _ rfl
    · exact w.elim
  · exact .inl (sim_notIn H0 sp ι h H x y vx vy W Q R qx qy w)
end
end PF
namespace PF
open PySem PySem.Spec PyProof.Rows L2
def mergeD (acc more : List (D × D)) : List (D × D) := more.foldl (fun a p => putD a p.1 p.2) acc
section
variable {K : PySem.W.Frag} {H0 : Hp} {sp ι : List Addr} {h : Hs} {H : Hp}
theorem KVR.merge : ∀ {more acc : List (D × D)} {us vs : List (Key × V)}, KVR K ι H more us → KVR K ι H acc vs → KVR K ι H (mergeD acc more) (mergeK vs us)
  | [], acc, us, vs, q, r => by
    have e : us = [] := List.eq_nil_of_length_eq_zero q.length.symm
    subst e
    exact r
  | p :: more, acc, us, vs, q, r => by
    obtain ⟨u, us', rfl, h1, h2, h3, q'⟩ := KVR.cons_iff.mp q
    exact KVR.merge (acc := putD acc p.1 p.2) (vs := putK vs u.1 u.2) q' (r.put h1 h2 h3)
theorem newDK {kvs : List (D × D)} {us : List (Key × V)} {p : Addr} (r : Rel K H0 sp ι h H) (q : KVR K ι H kvs us) (e : H p = none) :
    (Rel K H0 sp (ι ++ [p]) (h ++ [.dct kvs]) (upd H p (.dK us)) ∧ Stp ι H (ι ++ [p]) (upd H p (.dK us))) ∧ VR K (ι ++ [p]) (upd H p (.dK us)) (.ref h.length) (.ref p) := by
  have x := r.add (ho := .dK us) (o := .dct kvs) e fun s => ⟨us, upd_same, q.mono s⟩
  refine ⟨x, ?_⟩
  unfold VR
  exact ⟨p, rfl, by rw [← r.len]; simp⟩
def ownK (h : Hs) : D → Option (Nat × List (D × D))
  | .ref n => match h[n]? with
    | some (.dct kvs) => some (n, kvs)
    | _ => none
  | _ => none
theorem ownK_ok (R : Rel K H0 sp ι h H) {d : D} {v : V} {n : Nat} {kvs : List (D × D)} (q : VR K ι H d v) (e : ownK h d = some (n, kvs)) : ∃ a us, v = .ref a ∧ ι[n]? = some a ∧ H a = some (.dK us) ∧ KVR K ι H kvs us := by
  cases d with
  | ref m =>
    unfold VR at q
    obtain ⟨a, rfl, e2⟩ := q
    unfold ownK at e
    cases hn : h[m]? with
    | none => simp only [hn] at e; cases e
    | some o =>
      cases o with
      | lst xs => simp only [hn] at e; cases e
      | tb => simp only [hn] at e; cases e
      | dtt b => simp only [hn] at e; cases e
      | dct kvs' =>
        simp only [hn] at e
        cases e
        obtain ⟨b, e3, us, e4, e5⟩ := R.ob n _ hn
        rw [e2] at e3
        cases e3
        exact ⟨a, us, rfl, e2, e4, e5⟩
  | _ => cases e
end
section
variable {X : Cx} {g : G} {W : Wx}
/-! ### {} -/
def fDE : FE := fun _ h => .ok (.ref h.length) (h ++ [.dct []])
theorem sim_dE : SimE g W tDNewK fDE := by
  intro H0 sp ι h H env σ Q R E w p hp
  obtain ⟨x1, x2⟩ := newDK (kvs := []) (us := []) R .nil hp
  exact w.at x1 _ x2
/-! ### dict(zip(x, y)) -/
def tDZ (K : PySem.W.Frag) (ta : TA) : TE := fun σ H Q => ta σ H fun vs H1 => ∃ (a b : Addr) (xs ys : List V) (ks : List Key), vs = [.ref a, .ref b] ∧ ((SqL K H1 a xs ∧ SqL K H1 b ys) ∨ (SqT K H1 a xs ∧ SqT K H1 b ys)) ∧ xs.take (min xs.length ys.length) = ks.map kV ∧
  ∀ q, H1 q = none → Q (.ref q) (upd H1 q (.dK (mergeK [] (ks.zip (ys.take (min xs.length ys.length))))))
theorem pe_dictZip {e1 e2 : Expr} {ta : TA} {p p2 pos pos2 : Pos} (hg : Gl X "dict") (hm : X.mg "dict" = none) (hg2 : Gl X "zip") (hm2 : X.mg "zip" = none) (ha : PA X [e1, e2] ta) (hc : X.calm = true)
    (hs : starEach [e1, e2] X.env = (false, eval e1 X.env) :: starEach [e2] X.env := by rfl) (hpl : (backTo pos2 (starEach [e2] X.env)).any (·.1) = false := by rfl)
    (hs1 : starEach [.Call (.Name "zip" p2) [e1, e2] [] pos2] X.env = (false, eval (.Call (.Name "zip" p2) [e1, e2] [] pos2) X.env) :: starEach [] X.env := by rfl)
    (hpl1 : (backTo pos (starEach [] X.env)).any (·.1) = false := by rfl) :
    PE X (.Call (.Name "dict" p) [.Call (.Name "zip" p2) [e1, e2] [] pos2] [] pos) (tDZ X.K ta) := by
  refine ⟨fun pins s σ H Q I h => ?_⟩
  refine wpAny_Call_Name_kw (ld_blt I hg hm (show bootBuiltins "dict" = some (.type "dict") by decide +kernel) ?_)
  refine PyProof.Rows.callWith_type1 ?_ hs1 hpl1
  rw [hs1]
  show wpAny _ _ (spliced ((false, eval (.Call (.Name "zip" p2) [e1, e2] [] pos2) X.env) :: backTo pos (starEach [] X.env))) _ _ s
  refine Calls.spliced_cons ?_
  refine wpAny_Call_Name_kw (ld_blt I hg2 hm2 PyProof.Rows.boot_zip ?_)
  refine PyProof.Rows.callWith_type1 (thn (ha.run pos2 pins s σ H _ I h) fun us s1 ⟨vs, H1, I1, r1, q1⟩ => ?_) hs hpl
  obtain ⟨a, b, xs, ys, ks, rfl, hq, hk, fin⟩ := q1
  obtain ⟨u1, u2, rfl, ru1, ru2⟩ := Vals.two r1
  cases (show u1 = Value.ref a from ru1)
  cases (show u2 = Value.ref b from ru2)
  have hh := I.ok.hd hc
  have fresh5 : ∀ c, c ∈ [s1.heap.objs.size + 4, s1.heap.objs.size + 2, s1.heap.objs.size + 3, s1.heap.objs.size, s1.heap.objs.size + 1] → s1.heap.objs.size ≤ c := fun c hcm => by
    have e' : c = s1.heap.objs.size + 4 ∨ c = s1.heap.objs.size + 2 ∨ c = s1.heap.objs.size + 3 ∨ c = s1.heap.objs.size ∨ c = s1.heap.objs.size + 1 := by simpa using hcm
    rcases e' with z | z | z | z | z
    · rw [z]; exact Nat.le_add_right _ _
    · rw [z]; exact Nat.le_add_right _ _
    · rw [z]; exact Nat.le_add_right _ _
    · rw [z]; exact Nat.le_refl _
    · rw [z]; exact Nat.le_add_right _ _
  have hsub : ∀ c, c ∈ [s1.heap.objs.size + 4, s1.heap.objs.size + 2, s1.heap.objs.size + 3, s1.heap.objs.size, s1.heap.objs.size + 1] → c ∈ [s1.heap.objs.size + 4, s1.heap.objs.size + 2, s1.heap.objs.size + 3, s1.heap.objs.size, s1.heap.objs.size + 1, a, b] := fun c hcm => by
    have e' : c = s1.heap.objs.size + 4 ∨ c = s1.heap.objs.size + 2 ∨ c = s1.heap.objs.size + 3 ∨ c = s1.heap.objs.size ∨ c = s1.heap.objs.size + 1 := by simpa using hcm
    rcases e' with z | z | z | z | z <;> rw [z] <;> simp
  have hkl : ks.length = min xs.length ys.length := by
    have := congrArg List.length hk
    rw [List.length_take, List.length_map] at this
    omega
  have hvl : (ys.take (min xs.length ys.length)).length = min xs.length ys.length := by rw [List.length_take]; omega
  have rel : ∀ {its its2 : List Value}, Vals xs its → Vals ys its2 → ∀ i, i < min xs.length ys.length → ∃ k v, ks[i]? = some k ∧ (ys.take (min xs.length ys.length))[i]? = some v ∧ L2.RelV (kV k) (its.toArray.getD i .none) ∧ L2.RelV v (its2.toArray.getD i .none) := fun {its its2} rv rv2 i hi => by
    have h1 : i < xs.length := by omega
    have h2 : i < ys.length := by omega
    have h3 : i < ks.length := by omega
    have e3 : (xs.take (min xs.length ys.length))[i]? = some (kV ks[i]) := by rw [hk, List.getElem?_map, List.getElem?_eq_getElem h3]; rfl
    rw [List.getElem?_take, if_pos hi] at e3
    have g1 := getD_rel rv i
    have g2 := getD_rel rv2 i
    have d1 : xs.getD i .non = kV ks[i] := by simp [List.getD, e3]
    have d2 : ys.getD i .non = ys[i] := by simp [List.getD, h2]
    rw [d1] at g1
    rw [d2] at g2
    exact ⟨ks[i], ys[i], List.getElem?_eq_getElem h3, by rw [List.getElem?_take, if_pos hi, List.getElem?_eq_getElem h2], g1, g2⟩
  rcases hq with ⟨hqx, hqy⟩ | ⟨hqx, hqy⟩
  · obtain ⟨its, rv, p1, l1⟩ := I1.list hqx
    obtain ⟨its2, rv2, p2', l2⟩ := I1.list hqy
    refine call_zip_2 p1.isList p2'.isList fun h' hz hTI hTO h1 h2 hsz hk' => Calls.spliced_nil ?_
    have I2 : Inv X pins σ H1 { s1 with heap := h' } := I1.kept (t' := s1.toks) hk'
    have len : min xs.length ys.length = min its.toArray.size its2.toArray.size := by rw [List.size_toArray, List.size_toArray, rv.length, rv2.length]
    have up : ∀ (l : Addr) (zs : Array Value), s1.heap.IsList l zs → h'.IsList l zs := fun l zs ⟨o, e, r⟩ => ⟨o, hk' _ _ e, r⟩
    have pa := ZD.arg_of (P := X.prog) (w := X.w) (z := s1.heap.objs.size + 4) (TI := s1.heap.objs.size + 2) (TO := s1.heap.objs.size + 3) (ch := [s1.heap.objs.size + 4, s1.heap.objs.size + 2, s1.heap.objs.size + 3, s1.heap.objs.size, s1.heap.objs.size + 1]) (fp := [s1.heap.objs.size + 4, s1.heap.objs.size + 2, s1.heap.objs.size + 3, s1.heap.objs.size, s1.heap.objs.size + 1, a, b])
      (n := min its.toArray.size its2.toArray.size) (us := fun i => (its.toArray.getD i .none, its2.toArray.getD i .none)) (Z := fun q => ZL.LZ its.toArray its2.toArray (s1.heap.objs.size + 4) (s1.heap.objs.size + 2) (s1.heap.objs.size + 3) s1.heap.objs.size (s1.heap.objs.size + 1) a b q)
      (OK := fun h => IsZip h (s1.heap.objs.size + 4) (s1.heap.objs.size + 2) (s1.heap.objs.size + 3) .none ∧ IsPair h (s1.heap.objs.size + 2) (.ref s1.heap.objs.size) (.ref (s1.heap.objs.size + 1)) ∧ (∃ x y, IsPair h (s1.heap.objs.size + 3) x y) ∧ h.IsListIter s1.heap.objs.size a 0 ∧ h.IsListIter (s1.heap.objs.size + 1) b 0 ∧ h.IsList a its.toArray ∧ h.IsList b its2.toArray)
      (fun q hq => ZL.zw_list (PySem.W.ktu_apart s1.heap.objs.size a b p1.lt p2'.lt) hq) hsub (fun h z => z.1) (fun g g' ⟨z1, z2, ⟨x, y, z3⟩, z4, z5, z6, z7⟩ k => ⟨k _ _ z1, k _ _ z2, ⟨x, y, k _ _ z3⟩, z4.at fun o => k _ o, z5.at fun o => k _ o, z6.at fun o => k _ o, z7.at fun o => k _ o⟩)
      (fun g ⟨z1, z2, ⟨x, y, z3⟩, ⟨o4, z4, _⟩, ⟨o5, z5, _⟩, ⟨o6, z6, _⟩, ⟨o7, z7, _⟩⟩ c hcm => by
        simp only [List.mem_cons, List.not_mem_nil, or_false] at hcm
        rcases hcm with rfl | rfl | rfl | rfl | rfl | rfl | rfl
        all_goals first | exact ⟨_, z1⟩ | exact ⟨_, z2⟩ | exact ⟨_, z3⟩ | exact ⟨_, z4⟩ | exact ⟨_, z5⟩ | exact ⟨_, z6⟩ | exact ⟨_, z7⟩)
      (fun q g _ ⟨z1, z2, z3, z4, z5, z6, z7⟩ => ⟨.inl ⟨rfl, z1⟩, z2, z3, z4, z5, z6, z7⟩)
    refine ZD.dict_zip (fp := [s1.heap.objs.size + 4, s1.heap.objs.size + 2, s1.heap.objs.size + 3, s1.heap.objs.size, s1.heap.objs.size + 1, a, b]) (ks := ks) (vs := ys.take (min xs.length ys.length)) hh I2 pa ⟨hz, hTI, ⟨_, _, hTO⟩, h1, h2, up _ _ p1.isList, up _ _ p2'.isList⟩
      (fun c hcm => I1.fpOk (fresh5 c hcm) (I1.hok.fresh (fresh5 c hcm))) (by rw [hkl, len]) (by rw [hvl, len]) (fun i hi => rel rv rv2 i (by omega)) (by omega) fun q s' hq I3 => ?_
    exact ⟨.ref q, _, I3, rfl, fin q hq⟩
  · obtain ⟨its, rv, p1, l1⟩ := I1.tuple hqx
    obtain ⟨its2, rv2, p2', l2⟩ := I1.tuple hqy
    obtain ⟨o1, ho1, _⟩ := id p1
    obtain ⟨o2, ho2, _⟩ := id p2'
    have t1 : s1.heap.IsTuple a its.toArray := p1
    have t2 : s1.heap.IsTuple b its2.toArray := p2'
    refine RZ.call_zipT t1 t2 fun h' hz hTI hTO h1 h2 hsz hk' => Calls.spliced_nil ?_
    have I2 : Inv X pins σ H1 { s1 with heap := h' } := I1.kept (t' := s1.toks) hk'
    have len : min xs.length ys.length = min its.toArray.size its2.toArray.size := by rw [List.size_toArray, List.size_toArray, rv.length, rv2.length]
    have up : ∀ (l : Addr) (zs : Array Value), s1.heap.IsTuple l zs → h'.IsTuple l zs := fun l zs ⟨o, e, r⟩ => ⟨o, hk' _ _ e, r⟩
    have pa := ZD.arg_of (P := X.prog) (w := X.w) (z := s1.heap.objs.size + 4) (TI := s1.heap.objs.size + 2) (TO := s1.heap.objs.size + 3) (ch := [s1.heap.objs.size + 4, s1.heap.objs.size + 2, s1.heap.objs.size + 3, s1.heap.objs.size, s1.heap.objs.size + 1]) (fp := [s1.heap.objs.size + 4, s1.heap.objs.size + 2, s1.heap.objs.size + 3, s1.heap.objs.size, s1.heap.objs.size + 1, a, b])
      (n := min its.toArray.size its2.toArray.size) (us := fun i => (its.toArray.getD i .none, its2.toArray.getD i .none)) (Z := fun q => ZL.TZ its.toArray its2.toArray (s1.heap.objs.size + 4) (s1.heap.objs.size + 2) (s1.heap.objs.size + 3) s1.heap.objs.size (s1.heap.objs.size + 1) a b q)
      (OK := fun h => IsZip h (s1.heap.objs.size + 4) (s1.heap.objs.size + 2) (s1.heap.objs.size + 3) .none ∧ IsPair h (s1.heap.objs.size + 2) (.ref s1.heap.objs.size) (.ref (s1.heap.objs.size + 1)) ∧ (∃ x y, IsPair h (s1.heap.objs.size + 3) x y) ∧ h.IsTupleIter s1.heap.objs.size a 0 ∧ h.IsTupleIter (s1.heap.objs.size + 1) b 0 ∧ h.IsTuple a its.toArray ∧ h.IsTuple b its2.toArray)
      (fun q hq => ZL.zw_tup (PySem.W.ktu_apart s1.heap.objs.size a b (Heap.lt_size ho1) (Heap.lt_size ho2)) hq) hsub (fun h z => z.1) (fun g g' ⟨z1, z2, ⟨x, y, z3⟩, z4, z5, z6, z7⟩ k => ⟨k _ _ z1, k _ _ z2, ⟨x, y, k _ _ z3⟩, z4.at fun o => k _ o, z5.at fun o => k _ o, z6.at fun o => k _ o, z7.at fun o => k _ o⟩)
      (fun g ⟨z1, z2, ⟨x, y, z3⟩, ⟨o4, z4, _⟩, ⟨o5, z5, _⟩, ⟨o6, z6, _⟩, ⟨o7, z7, _⟩⟩ c hcm => by
        simp only [List.mem_cons, List.not_mem_nil, or_false] at hcm
        rcases hcm with rfl | rfl | rfl | rfl | rfl | rfl | rfl
        all_goals first | exact ⟨_, z1⟩ | exact ⟨_, z2⟩ | exact ⟨_, z3⟩ | exact ⟨_, z4⟩ | exact ⟨_, z5⟩ | exact ⟨_, z6⟩ | exact ⟨_, z7⟩)
      (fun q g _ ⟨z1, z2, z3, z4, z5, z6, z7⟩ => ⟨.inl ⟨rfl, z1⟩, z2, z3, z4, z5, z6, z7⟩)
    refine ZD.dict_zip (fp := [s1.heap.objs.size + 4, s1.heap.objs.size + 2, s1.heap.objs.size + 3, s1.heap.objs.size, s1.heap.objs.size + 1, a, b]) (ks := ks) (vs := ys.take (min xs.length ys.length)) hh I2 pa ⟨hz, hTI, ⟨_, _, hTO⟩, h1, h2, up _ _ t1, up _ _ t2⟩
      (fun c hcm => I1.fpOk (fresh5 c hcm) (I1.hok.fresh (fresh5 c hcm))) (by rw [hkl, len]) (by rw [hvl, len]) (fun i hi => rel rv rv2 i (by omega)) (by omega) fun q s' hq I3 => ?_
    exact ⟨.ref q, _, I3, rfl, fin q hq⟩
theorem kDZ (K) {e1 e2 : Expr} {ta : TA} {p p2 pos pos2 : Pos} (g1 : Gl X (Str.ofString "dict")) (m1 : X.mg (Str.ofString "dict") = none) (g2 : Gl X (Str.ofString "zip")) (m2 : X.mg (Str.ofString "zip") = none) (ha : PA X [e1, e2] ta) (hc : X.calm = true)
    (q1 : starEach [e1, e2] X.env = (false, eval e1 X.env) :: starEach [e2] X.env := by rfl) (q2 : ((backTo pos2 (starEach [e2] X.env)).any fun x => x.fst) = false := by rfl)
    (q3 : starEach [(Expr.Name (Str.ofString "zip") p2).Call [e1, e2] [] pos2] X.env = (false, eval ((Expr.Name (Str.ofString "zip") p2).Call [e1, e2] [] pos2) X.env) :: starEach [] X.env := by rfl)
    (q4 : ((backTo pos (starEach [] X.env)).any fun x => x.fst) = false := by rfl) (h : X.K = K := by rfl) :
    PE X ((Expr.Name (Str.ofString "dict") p).Call [(Expr.Name (Str.ofString "zip") p2).Call [e1, e2] [] pos2] [] pos) (tDZ K ta) := h ▸ pe_dictZip g1 m1 g2 m2 ha hc q1 q2 q3 q4
def two (h : Hs) : D → D → Option (List D × List D)
  | .tup a, .tup b => some (a, b)
  | x, y => match lof h x, lof h y with
    | some a, some b => some (a, b)
    | _, _ => none
def zipK (a b : List D) : List (D × D) := mergeD [] (a.zip b)
def fDZ (fa : FA) : FE := fun env h => (fa env h).bnd fun xs h1 => match xs with
  | [x, y] => match two h1 x y with
    | some (a, b) => if ((a.take (min a.length b.length)).all fun d => (keyOf d).isSome) = true then .ok (.ref h1.length) (h1 ++ [.dct (zipK (a.take (min a.length b.length)) (b.take (min a.length b.length)))]) else .no
    | none => .no
  | _ => .no
theorem keys_of {K : PySem.W.Frag} {ι : List Addr} {H : Hp} : ∀ {ds : List D} {vs : List V}, VRs K ι H ds vs → (ds.all fun d => (keyOf d).isSome) = true → ∃ ks : List Key, vs = ks.map kV ∧ ds.map keyOf = ks.map some
  | [], vs, q, _ => ⟨[], VRs.nil_iff.mp q, rfl⟩
  | d :: ds, vs, q, e => by
    obtain ⟨v, r, rfl, h1, h2⟩ := VRs.cons_iff.mp q
    rw [List.all_cons, Bool.and_eq_true] at e
    obtain ⟨k, hk⟩ := Option.isSome_iff_exists.mp e.1
    obtain ⟨ks, e1, e2⟩ := keys_of h2 e.2
    exact ⟨k :: ks, by rw [List.map_cons, e1, keyV h1 hk], by rw [List.map_cons, List.map_cons, hk, e2]⟩
theorem KVR.zip {K : PySem.W.Frag} {ι : List Addr} {H : Hp} : ∀ {ds es : List D} {ks : List Key} {vs : List V}, VRs K ι H ds (ks.map kV) → ds.map keyOf = ks.map some → VRs K ι H es vs → ds.length = es.length → KVR K ι H (ds.zip es) (ks.zip vs)
  | [], es, ks, vs, q, e, r, l => by
    have : ks = [] := by cases ks with
      | nil => rfl
      | cons a b => simp at e
    subst this
    exact .nil
  | d :: ds, [], ks, vs, q, e, r, l => by simp at l
  | d :: ds, x :: es, [], vs, q, e, r, l => by simp at e
  | d :: ds, x :: es, k :: ks, vs, q, e, r, l => by
    obtain ⟨v, t, rfl, b1, b2⟩ := VRs.cons_iff.mp r
    rw [List.map_cons] at q
    obtain ⟨u, t', e2, a1, a2⟩ := VRs.cons_iff.mp q
    cases e2
    rw [List.map_cons, List.map_cons, List.cons.injEq] at e
    exact KVR.cons_iff.mpr ⟨(k, v), _, rfl, e.1, a1, b1, KVR.zip a2 e.2 b2 (by simpa using l)⟩
theorem VRs.takeN {K : PySem.W.Frag} {ι : List Addr} {H : Hp} : ∀ (n : Nat) {ds : List D} {vs : List V}, VRs K ι H ds vs → VRs K ι H (ds.take n) (vs.take n)
  | 0, ds, vs, _ => by rw [List.take_zero, List.take_zero]; rfl
  | n + 1, [], vs, q => by rw [VRs.nil_iff.mp q]; rfl
  | n + 1, d :: ds, vs, q => by
    obtain ⟨v, r, rfl, h1, h2⟩ := VRs.cons_iff.mp q
    exact .cons h1 (VRs.takeN n h2)
theorem sim_dz {ta : TA} {fa : FA} (ha : SimA g W ta fa) : SimE g W (tDZ g.K ta) (fDZ fa) := by
  intro H0 sp ι h H env σ Q R E w
  refine ha H0 sp ι h H env σ _ R E (WP.bnd w fun zs h1 ι1 H1 R1 S1 w1 v1 q1 => ?_)
  split at w1
  · rename_i x y
    split at w1
    · rename_i a b e1
      obtain ⟨hk, w1⟩ := ifN w1
      obtain ⟨v, v', rfl, p1, p2⟩ := q1.twoE
      have key : ∃ (a' b' : Addr) (xs ys : List V), v = .ref a' ∧ v' = .ref b' ∧ ((SqL g.K H1 a' xs ∧ SqL g.K H1 b' ys) ∨ (SqT g.K H1 a' xs ∧ SqT g.K H1 b' ys)) ∧ VRs g.K ι1 H1 a xs ∧ VRs g.K ι1 H1 b ys := by
        unfold two at e1
        split at e1
        · cases e1
          obtain ⟨a', xs, rfl, t1, r1⟩ := p1.tupE
          obtain ⟨b', ys, rfl, t2, r2⟩ := p2.tupE
          exact ⟨a', b', xs, ys, rfl, rfl, .inr ⟨t1, t2⟩, r1, r2⟩
        · split at e1
          · rename_i a0 b0 f1 f2
            cases e1
            obtain ⟨a', xs, rfl, t1, r1⟩ := lof_ok R1 p1 f1
            obtain ⟨b', ys, rfl, t2, r2⟩ := lof_ok R1 p2 f2
            exact ⟨a', b', xs, ys, rfl, rfl, .inl ⟨SqL.of t1, SqL.of t2⟩, r1, r2⟩
          · cases e1
      obtain ⟨a', b', xs, ys, rfl, rfl, hs, r1, r2⟩ := key
      have r1' := VRs.takeN (min a.length b.length) r1
      have r2' := VRs.takeN (min a.length b.length) r2
      rw [r1.length, r2.length] at r1' r2' hk
      obtain ⟨ks, e3, e4⟩ := keys_of r1' hk
      refine ⟨a', b', xs, ys, ks, rfl, hs, e3, fun q hq => ?_⟩
      rw [e3] at r1'
      have z := KVR.zip r1' e4 r2' (by rw [List.length_take, List.length_take, r1.length, r2.length]; omega)
      have m := KVR.merge (acc := []) (vs := []) z .nil
      obtain ⟨x1, x2⟩ := newDK R1 m hq
      rw [r1.length, r2.length] at w1
      exact w1.at x1 _ x2
    · exact w1.elim
  · exact w1.elim
/-! ### d[k] = v -/
theorem PSet.or {t t' : TSet} (h : PSet X t) (h' : PSet X t') : PSet X (fun o i v H Q => t o i v H Q ∨ t' o i v H Q) := by
  intro pins s σ H o i v ov iv u Q I ro ri rv q
  rcases q with q | q
  · exact h pins s σ H o i v ov iv u Q I ro ri rv q
  · exact h' pins s σ H o i v ov iv u Q I ro ri rv q
def uSet : TSet := fun o i v H Q => rSetL o i v H Q ∨ rSetD o i v H Q
theorem kSet {k : Nat} (hr : Room k X.A) : PSet X uSet := PF.PSet.or set_list (set_dict (by have := hr.un; omega))
def gSA (fo fi : FE) : FG := fun d env h => (fo env h).bnd fun x h1 => (fi env h1).bnd fun y h2 => match ownK h2 x with
  | some (n, kvs) => match keyOf y with
    | some _ => if kvs.length < 16777216 then .ok env (h2.set n (.dct (putD kvs y d))) else .no
    | none => .no
  | none => match own h2 x, y with
    | some (n, ds), .int k => match ixN ds.length k with
      | some j => .ok env (h2.set n (.lst (ds.set j d)))
      | none => .no
    | _, _ => .no
theorem sim_gsubA {to ti : TE} {fo fi : FE} (ho : SimE g W to fo) (hi : SimE g W ti fi) : SimG g W (gSub to ti uSet) (gSA fo fi) := by
  intro H0 sp ι h H env σ d v Q R E q w
  refine ho H0 sp ι h H env σ _ R E (WP.bnd w fun x h1 ι1 H1 R1 S1 w1 v1 q1 => ?_)
  refine hi H0 sp ι1 h1 H1 env σ _ R1 (E.mono S1) (WP.bnd w1 fun y h2 ι2 H2 R2 S2 w2 v2 q2 => ?_)
  split at w2
  · rename_i n kvs e
    split at w2
    · rename_i k ek
      obtain ⟨hl, w2⟩ := ifN w2
      obtain ⟨a, us, rfl, hn, p, r⟩ := ownK_ok R2 (VR.mono S2 _ _ q1) e
      have hv := VR.mono (S1.trans S2) _ _ q
      have hkv := keyV q2 ek
      subst hkv
      have T := R2.put (ho := .dK (putK us k v)) (o := .dct (putD kvs y d)) hn fun s => ⟨_, upd_same, (r.mono s).put ek (VR.mono s _ _ q2) (VR.mono s _ _ hv)⟩
      refine .inr ⟨a, _, rfl, DPut.k p (by rw [← r.length, sizeLine_eq]; exact hl), w2.at T _ ((E.mono (S1.trans S2)).mono T.2)⟩
    · exact w2.elim
  · split at w2
    · rename_i n ds k e
      split at w2
      · rename_i j ej
        obtain ⟨a, vs, rfl, hn, p, r⟩ := own_ok R2 (VR.mono S2 _ _ q1) e
        have T := putL R2 hn (VRs.set (VR.mono (S1.trans S2) _ _ q) j r)
        exact .inl ⟨a, vs, k, j, rfl, q2, p, by rw [← r.length]; exact ej, w2.at T _ ((E.mono (S1.trans S2)).mono T.2)⟩
      · exact w2.elim
    · exact w2.elim
/-! ### dict comprehensions -/
open Classical in
noncomputable def dcN (fg : FG) (fc : FT) (fk fv : FE) (s : Src) (n : Nat) (env : En) : List D → Hs → R Unit
  | [], h => if s.good h then .ok () h else .no
  | d :: r, h => if s.good h then (fg d env h).bnd fun e h1 => (fc e h1).bnd fun b h2 => if b = true then (fk e h2).bnd fun y h3 => (fv e h3).bnd fun z h4 => match keyOf y, h4[n]? with
        | some _, some (.dct kvs) => if kvs.length < 16777216 then dcN fg fc fk fv s n env r (h4.set n (.dct (putD kvs y z))) else .no
        | _, _ => .no
      else dcN fg fc fk fv s n env r h2
    else .no
noncomputable def fDc (fi : FI) (fg : FG) (fc : FT) (fk fv : FE) (vs : List Nat) : FE := fun env h => (fi env h).bnd fun s h1 => (dcN fg fc fk fv s h1.length (wipeE env vs) s.items (h1 ++ [.dct []])).bnd fun _ h2 => .ok (.ref h1.length) h2
theorem sim_dc {wi : TI} {fi : FI} {tg : TG} {fg : FG} {tc : TT} {fc : FT} {tk tv : TE} {fk fv : FE} {vs : List Nat} (hi : SimI g W wi fi) (hg : SimG g W tg fg) (ho : OnlyG tg vs) (hc : SimT g W tc fc) (hk : SimE g W tk fk) (he : SimE g W tv fv) : SimE g W (tDc wi tg tc tk tv vs) (fDc fi fg fc fk fv vs) := by
  intro H0 sp ι h H env σ Q R E w
  refine hi H0 sp ι h H env σ _ R E (WP.bnd w fun s h1 ι1 H1 R1 S1 w1 J hJ Dl hD => ?_)
  have E1 := (E.mono S1).wiped' vs
  obtain ⟨R2, S2⟩ := R1.add (ho := .dK []) (o := .dct []) hD fun _ => ⟨[], upd_same, .nil⟩
  have n1 : (ι1 ++ [Dl])[h1.length]? = some Dl := by rw [← R1.len]; simp
  generalize hι2 : ι1 ++ [Dl] = ι2 at *
  generalize hH2 : upd H1 Dl (.dK []) = H2 at *
  have fin : ∀ (ι : List Addr) (h : Hs) (H : Hp), Rel g.K H0 sp ι h H → Stp ι2 H2 ι H → WP g H0 sp W ι H (PF.R.ok () h) (fun _ h' ι' H' => WP g H0 sp W ι' H' (PF.R.ok (D.ref h1.length) h') fun d _ ι' H' => ∀ v, VR g.K ι' H' d v → Q v H') → Q (.ref Dl) H := by
    intro ι h H R S w
    refine (w.here R).here R (.ref Dl) ?_
    unfold VR
    exact ⟨Dl, rfl, S.pre _ _ n1⟩
  have w2 : WP g H0 sp W ι2 H2 (dcN fg fc fk fv s h1.length (wipeE env vs) s.items (h1 ++ [.dct []])) (fun _ h' ι' H' => WP g H0 sp W ι' H' (PF.R.ok (D.ref h1.length) h') fun d _ ι' H' => ∀ v, VR g.K ι' H' d v → Q v H') :=
    WP.bnd (w1.step S2) fun _ h' ι' H' _ _ w => w
  refine ⟨fun i m H => m = s.items.length - i ∧ i ≤ s.items.length ∧ ∃ (ι : List Addr) (h : Hs), Rel g.K H0 sp ι h H ∧ Stp ι2 H2 ι H ∧ WP g H0 sp W ι H (dcN fg fc fk fv s h1.length (wipeE env vs) (s.items.drop i) h) (fun _ h' ι' H' => WP g H0 sp W ι' H' (PF.R.ok (D.ref h1.length) h') fun d _ ι' H' => ∀ v, VR g.K ι' H' d v → Q v H'), ⟨_, rfl, Nat.zero_le _, ι2, _, R2, Stp.refl _ _, w2⟩, ?_⟩
  rintro i m H ⟨rfl, hle, ι, h, R, S, w⟩
  by_cases hlt : i < s.items.length
  · rw [List.drop_eq_getElem_cons hlt] at w
    unfold dcN at w
    obtain ⟨hgood, w⟩ := ifC w
    obtain ⟨hgo, hy⟩ := (hJ ι h H R (S2.trans S) hgood).1 i hlt
    refine .inr ⟨hgo, fun H' => ∃ (ι : List Addr) (h : Hs), Rel g.K H0 sp ι h H' ∧ Stp ι2 H2 ι H' ∧ WP g H0 sp W ι H' (dcN fg fc fk fv s h1.length (wipeE env vs) (s.items.drop (i + 1)) h) (fun _ h' ι' H' => WP g H0 sp W ι' H' (PF.R.ok (D.ref h1.length) h') fun d _ ι' H' => ∀ v, VR g.K ι' H' d v → Q v H'), fun H' x => ⟨s.items.length - (i + 1), by omega, rfl, hlt, x⟩, fun x H' yl => ?_⟩
    obtain ⟨d, hd, ⟨R', S'⟩, q⟩ := hy x H' yl
    have hd' : s.items[i] = d := (List.getElem?_eq_some_iff.mp hd).2
    rw [hd'] at w
    have E' := (E1.mono ((S2.trans S).trans S'))
    have key := hg H0 sp ι h H' (wipeE env vs) (wipe σ vs) d x (fun σ2 H2' => tc σ2 H2' fun b H3 => if b = true then tk σ2 H3 fun y H4 => tv σ2 H4 fun z H5 => ∃ kvs k, y = kV k ∧ H5 Dl = some (.dK kvs) ∧ kvs.length < sizeLine ∧ (∃ (ι : List Addr) (h : Hs), Rel g.K H0 sp ι h (upd H5 Dl (.dK (putK kvs k z))) ∧ Stp ι2 H2 ι (upd H5 Dl (.dK (putK kvs k z))) ∧ WP g H0 sp W ι (upd H5 Dl (.dK (putK kvs k z))) (dcN fg fc fk fv s h1.length (wipeE env vs) (s.items.drop (i + 1)) h) (fun _ h' ι' H' => WP g H0 sp W ι' H' (PF.R.ok (D.ref h1.length) h') fun d _ ι' H' => ∀ v, VR g.K ι' H' d v → Q v H'))
      else (∃ (ι : List Addr) (h : Hs), Rel g.K H0 sp ι h H3 ∧ Stp ι2 H2 ι H3 ∧ WP g H0 sp W ι H3 (dcN fg fc fk fv s h1.length (wipeE env vs) (s.items.drop (i + 1)) h) (fun _ h' ι' H' => WP g H0 sp W ι' H' (PF.R.ok (D.ref h1.length) h') fun d _ ι' H' => ∀ v, VR g.K ι' H' d v → Q v H'))) R' E' q (WP.bnd (w.step S') fun e h2 ι3 H3 R3 S3 w3 σ2 Eσ => ?_)
    · have := ho x (wipe σ vs) H' _ key
      rw [wipe_wipe] at this
      exact this
    · refine hc H0 sp ι3 h2 H3 e σ2 _ R3 Eσ (WP.bnd w3 fun b h3 ι4 H4 R4 S4 w4 => ?_)
      have SS4 : Stp ι2 H2 ι4 H4 := ((S.trans S').trans S3).trans S4
      cases b with
      | false =>
        rw [if_neg Bool.false_ne_true] at w4 ⊢
        exact ⟨ι4, h3, R4, SS4, w4⟩
      | true =>
        rw [if_pos rfl] at w4 ⊢
        refine hk H0 sp ι4 h3 H4 e σ2 _ R4 (Eσ.mono S4) (WP.bnd w4 fun y h4 ι5 H5 R5 S5 w5 vy qy => ?_)
        refine he H0 sp ι5 h4 H5 e σ2 _ R5 ((Eσ.mono S4).mono S5) (WP.bnd w5 fun z h5 ι6 H6 R6 S6 w6 vz qz => ?_)
        have SS6 := (SS4.trans S5).trans S6
        split at w6
        · rename_i k kvs ek hh
          obtain ⟨hl, w6⟩ := ifN w6
          obtain ⟨a, e1, us, e2, r⟩ := R6.ob _ _ hh
          have ea := SS6.pre _ _ n1
          rw [e1] at ea; cases ea
          have hkv := keyV qy ek
          subst hkv
          have T := R6.put (ho := .dK (putK us k vz)) (o := .dct (putD kvs y z)) e1 fun s => ⟨_, upd_same, (r.mono s).put ek (VR.mono s _ _ (VR.mono S6 _ _ qy)) (VR.mono s _ _ qz)⟩
          exact ⟨us, k, rfl, e2, by rw [← r.length, sizeLine_eq]; exact hl, ι6, _, T.1, SS6.trans T.2, w6.step T.2⟩
        · exact w6.elim
  · have e : i = s.items.length := by omega
    subst e
    rw [List.drop_length] at w
    unfold dcN at w
    obtain ⟨hgood, w⟩ := ifC w
    exact .inl ⟨(hJ ι h H R (S2.trans S) hgood).2, fin ι h H R S w⟩
end
end PF
/-! an own exception class whose __init__ says super().__init__(..) first, over ValueError -/
namespace XI
open PySem PySem.Spec PyProof.Rows L2
open PySem.W (ksEnv ksFn kxs_mw KxsFacts KxsAt InstAt Looks)
/-- the names of such an __init__ -/
structure ScI (N : List Str) (sc : Scope) : Prop where
  kind : sc.kind = .function
  co : sc.isCoroutine = false
  gen : sc.isGenerator = false
  nd : N.Nodup
  par : ∀ x ∈ N, sc.names.lookup x = some .local
  nocell : ∀ x ∈ sc.names, x.2 ≠ .cell
  free : ∀ y ∈ sc.names, y.2 = .free → y.1 = ("__class__" : Str)
  kc : sc.names.lookup ("__class__" : Str) = some .free
  ks : sc.names.lookup ("super" : Str) = some .globalImplicit
def iCx (CX : CXT) (P : Program) (w : World) (K : PySem.W.Frag) (mg : Str → Option Value) (base : Heap) (N : List Str) (qual : Str) (scope : Scope) (f cc : Addr) (cd : Value) (A : Around) (outer : List Env) (s : Shared) (H : Hp) (E : XK) : Cx where
  prog := P
  w := w
  K := K
  mg := mg
  base := base
  A := A.deeper (ksEnv qual scope s.heap.objs.size f cd cc)
  N := N
  s_0 := s
  H_0 := H
  env := ksEnv qual scope s.heap.objs.size f cd cc
  outer := outer
  stack := ksEnv qual scope s.heap.objs.size f cd cc :: outer
  ex := []
  calm := true
  fn := fun _ => false
  pn := []
  xe := fun e s' => wpAny (model P w) (A.deeper (ksEnv qual scope s.heap.objs.size f cd cc)) (leaving (ksEnv qual scope s.heap.objs.size f cd cc) e) (fun _ s'' => CX outer H s E e s'') (fun e' s'' => CX outer H s E e' s'') s'
theorem lookup_nd : ∀ {l : List (Str × Value)} {y : Str} {u : Value}, (l.map (·.1)).Nodup → (y, u) ∈ l → l.lookup y = some u
  | [], y, u, _, m => by cases m
  | (a, b) :: r, y, u, h, m => by
    rw [List.map_cons, List.nodup_cons] at h
    rcases List.mem_cons.mp m with z | z
    · cases z
      simp [List.lookup]
    · have hne : y ≠ a := fun e => h.1 (by rw [← e]; exact List.mem_map.mpr ⟨(y, u), z, rfl⟩)
      have e : (y == a) = false := by simpa using hne
      simp only [List.lookup, e]
      exact lookup_nd h.2 z
theorem lookup_zip {ps : List Str} {us : List Value} (nd : ps.Nodup) (hl : us.length = ps.length) {i : Nat} {y : Str} {u : Value} (h1 : ps[i]? = some y) (h2 : us[i]? = some u) : (ps.zip us).reverse.lookup y = some u := by
  refine lookup_nd ?_ ?_
  · rw [List.map_reverse]
    rw [List.map_fst_zip (by omega)]
    exact List.pairwise_reverse.mpr (nd.imp Ne.symm)
  · rw [List.mem_reverse]
    exact List.mem_of_getElem? (List.getElem?_zip_eq_some.mpr ⟨h1, h2⟩)
section
variable {CX : CXT} {P : Program} {w : World} {K : PySem.W.Frag} {mg : Str → Option Value} {base : Heap} {N : List Str} {qual : Str} {scope : Scope} {f cc : Addr} {cd : Value} {A : Around} {outer : List Env} {s : Shared} {H : Hp} {E : XK}
theorem start_i {us : List Value} {vs : List V} {h1 : Heap} {tk : Nat} (S : ScI N scope) (hd : A.handled = none) (e0 : Env0 P w K mg base A outer s H) (hl : vs.length = N.length) (r : Vals vs us) (hc : ∃ v, base.IsCell cc v)
    (hns : h1.Ns s.heap.objs.size fun x => (N.zip us).reverse.lookup x) (hk : ∀ b o, s.heap.get? b = some o → h1.get? b = some o) :
    Inv (iCx CX P w K mg base N qual scope f cc cd A outer s H E) [] (L2.start N vs) H { s with heap := h1, toks := tk } := by
  obtain ⟨cv, co, hco, hcd⟩ := hc
  obtain ⟨hcs, hcH⟩ := e0.bs cc co hco
  have noA : ∀ b : Addr, b ∉ (iCx CX P w K mg base N qual scope f cc cd A outer s H E).ex := fun b z => absurd (show b ∈ ([] : List Addr) from z) (by simp)
  have cl : ∀ y c, ([(("__class__" : Str), cc)] : List (Str × Addr)).lookup y = some c → y = ("__class__" : Str) ∧ c = cc := fun y c e => by
    by_cases q : (y == ("__class__" : Str)) = true
    · simp only [List.lookup, q] at e
      exact ⟨by simpa using q, (Option.some.inj e).symm⟩
    · have q : (y == ("__class__" : Str)) = false := by simpa using q
      simp only [List.lookup, q] at e
      cases e
  refine ⟨⟨e0.mod, S.kind, rfl, rfl, Nat.le_refl _, fun y z c h1 h2 => (cl y c h1).1.trans (cl z c h2).1.symm, fun y hy => ?_, fun y c z _ => ?_, fun _ => hd, Around.frames_deeper e0.frames, .inr ⟨rfl, rfl⟩, fun b z => absurd z (noA b), e0.bs, e0.bsz, fun b _ _ => noA b, fun b z => absurd z (noA b), e0.funs, e0.frf⟩,
    rfl, e0.bare, Un.kept hk, ⟨_, hns, fun i y v h1 h2 h3 => ?_⟩, fun y c h => ?_, e0.hok.fresh (Nat.le_refl _), fun y c h => ?_, fun p hp => absurd (show p ∈ ([] : List (Addr × Obj)) from hp) (by simp), e0.hok.kept hk, ?_⟩
  · have hy : scope.names.lookup y = some .cell ∨ scope.names.lookup y = some .free := hy
    rcases hy with hy | hy
    · exact absurd rfl (S.nocell _ (PySem.mem_of_lookup hy))
    · have := S.free _ (PySem.mem_of_lookup hy) rfl
      refine ⟨cc, ?_⟩
      have this : y = ("__class__" : Str) := this
      rw [this]; rfl
  · have z : false = true := z
    cases z
  · have hi : i < vs.length := by
      unfold L2.start at h2
      by_cases hi : i < vs.length
      · exact hi
      · rw [List.getElem?_append_right (by simpa using hi), List.getElem?_replicate] at h2
        split at h2 <;> cases h2
    have ha : vs[i]? = some v := by
      unfold L2.start at h2
      rw [List.getElem?_append_left (by simpa using hi), List.getElem?_map] at h2
      cases e : vs[i]? with
      | none => rw [e] at h2; cases h2
      | some a => rw [e] at h2; cases h2; rfl
    obtain ⟨u, hu, rv⟩ := r.get ha
    refine ⟨u, rv, .inl ⟨S.par y (List.mem_of_getElem? h1), ?_⟩⟩
    exact lookup_zip S.nd (by rw [← r.length, hl]) h1 hu
  · obtain ⟨_, rfl⟩ := cl y c h
    exact ⟨cv, co, hk _ _ hcs, hcd⟩
  · obtain ⟨_, rfl⟩ := cl y c h
    exact hcH
  · unfold L2.start
    show _ = N.length
    rw [List.length_append, List.length_map, List.length_replicate]
    omega
end
/-- what the written part says of such an __init__ at f, written in the class at D, for instances of the class at C -/
structure SupF (prog : Program) (K : PySem.W.Frag) (mg : Str → Option Value) (cda cc D C : Addr) : Prop where
  code : ∃ ccl cdd vs ccs file tf, K.lookup cda = some ⟨ccl, cdd, .fields vs, ccs⟩ ∧ vs[2]? = some (.str file tf) ∧ ((prog.main.file : Str) == file) = true
  cell : ∃ cl cld csl, K.lookup cc = some ⟨cl, cld, .cell (some (.ref D)), csl⟩
  cls : ∃ cdD, PySem.W.clsIn K D = some cdD
  sub : PySem.W.mroIn K C (.ref D) = some true
  sup : mg "super" = none
  top : (prog.main.scope.names.lookup ("super" : Str)).isSome = false
  opq : PySem.W.nsIn K cStatics "thirdparty.any" = some none
  ini : PySem.W.ks_superIn K C D "__init__" = some (some (.builtin "ValueError.__init__"))
  isB : PySem.W.subIn K (.ref C) (.type "ValueError") = some true
/-- the wrapper called: the exception's args are laid anew -/
theorem mw_call {prog : Program} {w : World} {A : Around} {E : Value → Shared → Prop} {s : Shared} {u e C t : Addr} {dv : Option Addr} {rest : List Value} {nm q : Str} {N : Addr} {bs bm : List Value} {hdct : Bool} {sn : List Str} {sub : List Value} {ab : Bool} {col : Option Bool} {dd : Option Addr} {k0 k1 k2 k3 k5 : Option Value} {Q : Value → Shared → Prop}
    (hC : s.heap.get? C = some (excClassObj nm q C N bs bm hdct sn sub ab col dd k0 k1 k2 k3 k5 "ValueError.__new__")) (he : s.heap.get? e = some (PySem.W.excObj C t dv .none)) (hu : s.heap.get? u = some (kxs_mw "ValueError.__init__" e)) (hz : rest.length ≤ sizeLine)
    (fin : ∀ h' t', (∀ b o, b ≠ e → s.heap.get? b = some o → h'.get? b = some o) → h'.get? e = some (PySem.W.excObj C t' dv .none) → Q .none { s with heap := h' }) : wpAny (model prog w) A (call (.ref u) rest) Q E s := by
  have FB := F.excBase_ValueError
  obtain ⟨hh, g, d, tk, os⟩ := s
  refine wpAny_call (codeAny_of_tree ?_)
  show wpAny _ A.in1 (callAny (.ref u) ⟨rest, []⟩) _ _ _
  simp only [callAny]
  refine wpAny_bind (wpAny_load hu ?_)
  simp only [kxs_mw, show (Value.type "method-wrapper" == Value.type "method" || Value.type "method-wrapper" == Value.type "builtin_function_or_method" || Value.type "method-wrapper" == Value.type "method-wrapper") = true by decide, if_true]
  refine PySem.W.KFB.if_so (by decide) ?_
  refine wpAny_bind (PySem.W.check_bound_init FB.toExcCallFacts hC he rfl ?_)
  refine wpAny_bind (wpAny_pure (wpAny_pure ?_))
  refine ⟨plainId_quiet FB.init.plain _, codeAny_builtin FB.initEntry ?_⟩
  exact PySem.W.exc_init_tree (cls := .ref C) (t0 := t) (dv := dv) (c2 := .none) (c3 := .none) (b4 := .bool false) he hz fun h' k e' t' => fin h' _ k e'
theorem cw1 {M : Model} {A : Around} {E : Value → Shared → Prop} {s : Shared} {i : String} {u x : Addr} {pos : Pos} {env : Env} {e : Expr} {rest : List Expr} {Q : Value → Shared → Prop}
    (he : starEach (e :: rest) env = (false, eval e env) :: starEach rest env) (hplain : (backTo pos (starEach rest env)).any (·.1) = false)
    (h : wpAny M A (spliced (backTo pos (starEach (e :: rest) env))) (fun vs s₁ => KxsAt i u x s₁.heap ∧ wpAny M A (call (.ref u) vs) Q E s₁) E s) :
    wpAny M A (callWith pos (.ref u) [] (backTo pos (starEach (e :: rest) env)) []) Q E s := by
  rw [he] at h ⊢
  refine PySem.W.kxs_callWith (i := i) (x := x) (by show (false || (backTo pos (starEach rest env)).any (·.1)) = false; rw [hplain]; rfl) ?_
  exact PySem.Calls.evalArgs_plain h
/-- what such an __init__ keeps -/
def spI (P : Program) (K : PySem.W.Frag) (mg : Str → Option Value) (N : List Str) (cda cc : Addr) (ta : TA) (tr : TS) : Sp := fun vs H Q _ => vs.length = N.length ∧ ∃ (a C D : Addr) (us : List V), vs = .ref a :: us ∧ OexC K C ∧ SupF P K mg cda cc D C ∧ H a = some (exo a C none) ∧
  ta (L2.start N vs) H fun ws H1 => ws.length ≤ 1000 ∧ H1 a = some (exo a C none) ∧ tr { nx := fun _ H' => Q .non H', rt := Q } (L2.start N vs) H1
/-- how the method call reads -/
def HMs (p0 p1 p2 p3 : Pos) (args : List Expr) (qual : Str) (scope : Scope) (f cc cda : Addr) : Prop := ∀ L : Addr, ∃ pl : Sem Bool, eval (.Call (.Attribute (.Call (.Name "super" p0) [] [] p1) "__init__" p2) args [] p3) (ksEnv qual scope L f (.ref cda) cc) = (do
      let ov ← attributeBase (.Call (.Name "super" p0) [] [] p1) "__init__" (ksEnv qual scope L f (.ref cda) cc) (eval (.Call (.Name "super" p0) [] [] p1) (ksEnv qual scope L f (.ref cda) cc))
      standAt p2.atName
      let (f', first) ← holding [ov] (getMethod ov "__init__" pl)
      callWith p3 f' first (backTo p3 (starEach args (ksEnv qual scope L f (.ref cda) cc))) [])
theorem fn_init {P : Program} {w : World} {K : PySem.W.Frag} {mg : Str → Option Value} {base : Heap} {k : Nat} {f cc cda : Addr} {name qual self : Str} {qs : List Str} {params : Arguments} {a : Expr} {as : List Expr} {rest : List Stmt} {scope : Scope} {dV kV doc pm ct oc : Value} {an od : Option Addr} {osl : Array (Option Value)} {p0 p1 p2 p3 p4 : Pos} {ta : TA} {tr : TS} {ar : Arg}
    (lk : K.lookup f = some ⟨oc, od, .func (ksFn name qual params (.Expr (.Call (.Attribute (.Call (.Name "super" p0) [] [] p1) "__init__" p2) (a :: as) [] p3) p4 :: rest) scope dV kV doc pm an (.ref cda) ct cc), osl⟩) (hcd : PySem.W.codeIn K (.ref cda) qual = true) (S : ScI (self :: qs) scope)
    (hp : (params.posonlyargs ++ params.args).head? = some ar) (har : ar.arg = self) (hcell : ∃ v, base.IsCell cc v)
    (ha : ∀ (A : Around) (outer : List Env) (s : Shared) (H : Hp) (E : XK), PA (iCx C8.CX0 P w K mg base (self :: qs) qual scope f cc (.ref cda) A outer s H E) (a :: as) ta)
    (hr : ∀ (A : Around) (outer : List Env) (s : Shared) (H : Hp) (E : XK), PSs (iCx C8.CX0 P w K mg base (self :: qs) qual scope f cc (.ref cda) A outer s H E) rest tr)
    (he : ∀ env : Env, starEach (a :: as) env = (false, eval a env) :: starEach as env := by intro _; rfl) (hpl : ∀ (pos : Pos) (env : Env), (backTo pos (starEach as env)).any (·.1) = false := by intro _ _; rfl)
    (hms : HMs p0 p1 p2 p3 (a :: as) qual scope f cc cda)
    (hsw : ∀ env : Env, swapsWith (.Call (.Attribute (.Call (.Name "super" p0) [] [] p1) "__init__" p2) (a :: as) [] p3) none p4.line env = pure false := by intro _; rfl) :
    FnOk P w K mg base C8.CX0 (k + 1) f (ksFn name qual params (.Expr (.Call (.Attribute (.Call (.Name "super" p0) [] [] p1) "__init__" p2) (a :: as) [] p3) p4 :: rest) scope dV kV doc pm an (.ref cda) ct cc) (self :: qs) (spI P K mg (self :: qs) cda cc ta tr) := by
  refine ⟨fun vs H Q E h => h.1, fun A outer s H args us vs Q E hroom e0 hb r hsp => ?_⟩
  obtain ⟨hl, x, C, D, ws, ev, T, SF, hx, ht⟩ := hsp
  have KX : K.In s.heap := e0.mod.kin.keeps fun b o e => (e0.bs b o e).1
  have lim : s.heap.NoLimit := e0.mod.nolimit.keeps fun b o e => (e0.bs b o e).1
  have hlu : us.length = (self :: qs).length := by rw [← r.length, hl]
  refine PySem.ks_codeAny_call_defAt hroom.depth (KX _ _ lk) rfl lim (PySem.W.codeRec_of KX hcd) rfl hb S.nocell (fun y hy => ?_) (fun h₁ hns hk => ?_) S.co S.gen S.kind
  · obtain ⟨n, v⟩ := y
    exact S.par n (List.of_mem_zip hy).1
  show PySem.wpAt (model P w) (A.deeper (ksEnv qual scope s.heap.objs.size f (.ref cda) cc)) (.func _ (ksEnv qual scope s.heap.objs.size f (.ref cda) cc)) (execs _ (ksEnv qual scope s.heap.objs.size f (.ref cda) cc)) _ _ _
  have J1 : Inv (iCx C8.CX0 P w K mg base (self :: qs) qual scope f cc (.ref cda) A outer s H E) [] (L2.start (self :: qs) vs) H { s with heap := h₁, toks := s.toks + ((self :: qs).zip us).length } := start_i S hroom.hd e0 hl r hcell hns hk
  obtain ⟨pl, hms⟩ := hms s.heap.objs.size
  have hint : interactive (ksEnv qual scope s.heap.objs.size f (.ref cda) cc) = false := by
    unfold interactive
    rw [show (ksEnv qual scope s.heap.objs.size f (.ref cda) cc).scope.kind = .function from S.kind]
    rfl
  refine PySem.ks_wpAt_execs_cons (PySem.ks_wpAt_Expr_any (PySem.ks_wpAt_MethodCall (pl := pl) ?_ hms) hint (hsw _))
  -- super()
  obtain ⟨ccl, cdd, fv, ccs, file, tf, hcode, hvs, hfile⟩ := SF.code
  obtain ⟨cl, cld, csl, hcl⟩ := SF.cell
  obtain ⟨cdD, hcD⟩ := SF.cls
  have K1 : K.In h₁ := KX.keeps hk
  obtain ⟨t1, hxo⟩ := exo_at J1.hok hx
  have xI : InstAt h₁ x ({ cls := .ref C, dict := none, data := .fields #[.ref t1, .none, .none, .none, .bool false, .none] } : Obj) C none := ⟨hxo, rfl, rfl, trivial⟩
  obtain ⟨oD, hD1, hD2⟩ : ∃ oD, h₁.get? D = some oD ∧ oD.data = .cls cdD := by
    unfold PySem.W.clsIn at hcD
    split at hcD
    · rename_i c d cd' sl ho
      cases hcD
      exact ⟨_, K1 _ _ ho, rfl⟩
    · cases hcD
  obtain ⟨u0, us', rfl⟩ : ∃ u0 us', us = u0 :: us' := by
    cases us with
    | nil => simp at hlu
    | cons u0 us' => exact ⟨u0, us', rfl⟩
  have hu0 : u0 = Value.ref x := by
    rw [ev] at r
    cases r with
    | cons r1 r2 => exact r1
  have hself : ((self :: qs).zip (u0 :: us')).reverse.lookup self = some (.ref x) := by rw [hu0]; exact lookup_zip S.nd (by simpa using hlu) (i := 0) rfl rfl
  obtain ⟨mb, hbl, hboot⟩ := e0.mod.blt
  have kb : ∀ b o, base.get? b = some o → h₁.get? b = some o := fun b o e => hk _ _ (e0.bs b o e).1
  have hks : (ksEnv qual scope s.heap.objs.size f (.ref cda) cc).kindOf "super" = some .globalImplicit := S.ks
  have hkc : (ksEnv qual scope s.heap.objs.size f (.ref cda) cc).kindOf "__class__" = some .free := S.kc
  refine PySem.ks_wpAt_super_base (env := ksEnv qual scope s.heap.objs.size f (.ref cda) cc) hks hkc (by decide) rfl (K1 _ _ lk) rfl hp rfl (K1 _ _ hcode) rfl hvs hfile SF.top ?_
  refine PySem.W.ks_loadName_global S.kind hks (PySem.Calls.loadGlobal_builtin (env := ksEnv qual scope s.heap.objs.size f (.ref cda) cc) (e0.mod.glob.keeps kb) SF.sup (hbl.keeps kb) ((hboot _ (by decide +kernel)).trans (show bootBuiltins "super" = some (.type "super") by decide +kernel)) ⟨rfl, ?_⟩)
  refine wpAny_loadName_free S.kind hkc rfl ⟨_, K1 _ _ hcl, rfl⟩ ?_
  rw [har]
  refine wpAny_loadName_local S.kind (S.par self List.mem_cons_self) hns hself ?_
  refine PySem.ks_wpAny_isType_cls hD1 hD2 ⟨rfl, ?_⟩
  refine PySem.ks_wpAny_call_super hD1 hD2 xI.at_ xI.cls (fun c e => by cases e) (PySem.W.looks_mroIn K1 SF.sub) (fun h2 hso k2 => ?_)
  -- .__init__
  have K2 : K.In h2 := K1.keeps k2
  have xI2 : InstAt h2 x ({ cls := .ref C, dict := none, data := .fields #[.ref t1, .none, .none, .none, .bool false, .none] } : Obj) C none := ⟨k2 _ _ hxo, rfl, rfl, trivial⟩
  have hini := SF.ini
  cases hc : PySem.W.clsIn K C with
  | none => unfold PySem.W.ks_superIn at hini; rw [hc] at hini; cases hini
  | some cd =>
    unfold PySem.W.ks_superIn at hini
    rw [hc] at hini
    have hI : Looks (model P w) h2 (isInstance (.ref x) (.type "ValueError")) true := xI2.type.andThen (PySem.W.looks_subIn K2 SF.isB)
    refine PySem.W.kxs_getMethod PySem.W.kxs_ValueError hso (PySem.W.looks_opaque K2 SF.opq) (l₀ := cd.mro) (fun A Q E s k q => wpAny_bind ((PySem.W.looks_clsIn K2 hc) A _ E s k (wpAny_pure q))) rfl K2 hini hI (PySem.W.ks_ne K2 xI2 hc) (by decide) ?_
    have k3 : ∀ b o, h₁.get? b = some o → (h2.push (kxs_mw "ValueError.__init__" x)).get? b = some o := fun b o e => Heap.get?_push_of_some _ (k2 _ _ e)
    have J3 : Inv (iCx C8.CX0 P w K mg base (self :: qs) qual scope f cc (.ref cda) A outer s H E) [] (L2.start (self :: qs) vs) H ⟨h2.push (kxs_mw "ValueError.__init__" x), s.gens, s.drawn, s.toks + ((self :: qs).zip (u0 :: us')).length + 1, s.os⟩ := J1.kept k3
    have hmw : (h2.push (kxs_mw "ValueError.__init__" x)).get? h2.objs.size = some (kxs_mw "ValueError.__init__" x) := Heap.get?_push_at rfl rfl
    have J2 : Inv (iCx C8.CX0 P w K mg base (self :: qs) qual scope f cc (.ref cda) A outer s H E) [] (L2.start (self :: qs) vs) H ⟨h2, s.gens, s.drawn, s.toks, s.os⟩ := J1.kept k2
    have fp : ∀ b ∈ [h2.objs.size], FpOk (iCx C8.CX0 P w K mg base (self :: qs) qual scope f cc (.ref cda) A outer s H E) [] H b := fun b hb => by
      have : b = h2.objs.size := by simpa using hb
      rw [this]
      exact J2.fpOk (Nat.le_refl _) (J2.hok.fresh (Nat.le_refl _))
    have J3' := J3.pinned (fp := [h2.objs.size]) fp fun b hb => by
      have : b = h2.objs.size := by simpa using hb
      rw [this]
      exact ⟨_, hmw, fun v z => by cases z⟩
    refine cw1 (i := "ValueError.__init__") (x := x) (he _) (hpl _ _) ?_
    refine thn ((ha A outer s H E).run p3 _ _ _ H _ J3' ht) fun ws' s4 ⟨vs4, H4, J4, r4, hz4, hx4, q4⟩ => ?_
    have pin := J4.pin (h2.objs.size, kxs_mw "ValueError.__init__" x) (List.mem_append_right _ (List.mem_append_right _ (mem_pinsAt (by simp) hmw)))
    refine ⟨pin.1, ?_⟩
    obtain ⟨nm, q, N', bs, bm, sn, sub, ab, col, dd, k0, k1, k2', k3', k5, hC, hbm⟩ := T.cls
    obtain ⟨t4, hx4o⟩ := exo_at J4.hok hx4
    have J4' : Inv (iCx C8.CX0 P w K mg base (self :: qs) qual scope f cc (.ref cda) A outer s H E) [] (L2.start (self :: qs) vs) H4 s4 := J4.unpinned (pins := [])
    refine mw_call (J4'.kIn _ _ hC) hx4o pin.1 (by rw [← Paired.length r4, sizeLine_eq]; omega) fun h5 t5 k5' e5 => ?_
    have J5 := J4'.write (t' := s4.toks) (x := x) (e := x) (o := exo x C none) (by rw [hx4]; exact True.intro) (.inl rfl) k5' ⟨_, e5⟩ (exo_ok e5)
    have eu : upd H4 x (exo x C none) = H4 := by
      funext b
      by_cases hb : b = x
      · rw [hb, upd_same, hx4]
      · rw [upd_ne hb]
    rw [eu] at J5
    refine PySem.wpAt_of_wpAny ?_
    refine wpAny_mono ((hr A outer s H E).run [] _ _ H4 _ J5 q4) (fun fl s' hs => ?_) fun e s' hs => hs
    have fin : ∀ {σ' : L2.St} {H' : Hp} {v : V} {u : Value}, Inv (iCx C8.CX0 P w K mg base (self :: qs) qual scope f cc (.ref cda) A outer s H E) [] σ' H' s' → L2.RelV v u → Q v H' → CE outer P w H s Q u s' :=
      fun {σ' H' v u} J rv q => ⟨v, H', J.os, J.bare, J.base, J.hok, rv, q⟩
    cases fl with
    | ret u =>
      obtain ⟨v, σ', H', J, rv, q⟩ := hs
      exact fin J rv q
    | next =>
      obtain ⟨σ', H', J, q⟩ := hs
      exact fin (v := V.non) (u := Value.none) J rfl q
    | brk =>
      obtain ⟨_, _, _, q⟩ := hs
      exact False.elim q
    | cont =>
      obtain ⟨_, _, _, q⟩ := hs
      exact False.elim q
end XI
namespace PF
open PySem PySem.Spec PyProof.Rows L2
/-! ### own error classes: made, raised -/
/-- __init__ of the class at C: the arguments are kept under the names fl -/
def SpI (K : PySem.W.Frag) (C : Addr) (fl : List Str) : Sp := fun vs H Q _ => ∃ (a : Addr) (us : List V), vs = .ref a :: us ∧ us.length = fl.length ∧ H a = some (exo a C none) ∧
  ∀ (d : Addr) (fs : List (Str × V)) (H2 : Hp), H d = none → d ≠ a → H2 a = some (exo a C (some d)) → H2 d = some (exd d fs) → (∀ b, b ≠ a → b ≠ d → H2 b = H b) → (∀ (i : Nat) (f : Str) (u : V), fl[i]? = some f → us[i]? = some u → fs.lookup f = some u) → Q .non H2
theorem fn_weak {P : Program} {w : World} {K : PySem.W.Frag} {mg : Str → Option Value} {base : Heap} {CX : CXT} {k : Nat} {f : Addr} {fd : FuncData} {ps : List Str} {sp sp' : Sp} (F : FnOk P w K mg base CX k f fd ps sp) (h : ∀ vs H Q E, sp' vs H Q E → sp vs H Q E) : FnOk P w K mg base CX k f fd ps sp' :=
  ⟨fun vs H Q E x => F.len vs H Q E (h vs H Q E x), fun A outer s H args us vs Q E hr e0 hb r x => F.run A outer s H args us vs Q E hr e0 hb r (h vs H Q E x)⟩
section
variable {P : Program} {K : PySem.W.Frag} {mg : Str → Option Value} {self p p2 f f2 : Str} {cda cc C D : Addr} {vs : List V} {H : Hp} {Q : VK} {E : XK}
theorem spI1 (T : OexC K C) (S : XI.SupF P K mg cda cc D C) (hno : PySem.W.findIn K (.ref C) f = some none) (h : SpI K C [f] vs H Q E) : XI.spI P K mg [self, p] cda cc (tCons (tVar 1) tNil) (tOst K f (tVar 0) (tVar 1)) vs H Q E := by
  obtain ⟨a, us, rfl, hl, ha, q⟩ := h
  match us, hl with
  | [u], _ =>
    refine ⟨rfl, a, C, D, [u], rfl, T, S, ha, u, rfl, by simp, ha, u, rfl, .ref a, rfl, a, C, rfl, T, hno, .inl ⟨ha, fun dx hn hd => ?_⟩⟩
    refine q dx [(f, u)] _ hn hd upd_same (by rw [upd_ne hd, upd_same]) (fun b h1 h2 => by rw [upd_ne h1, upd_ne h2]) ?_
    intro i g v h1 h2
    match i, h1, h2 with
    | 0, h1, h2 =>
      cases h1; cases h2
      simp [List.lookup]
theorem spI2 (T : OexC K C) (S : XI.SupF P K mg cda cc D C) (hno : PySem.W.findIn K (.ref C) f = some none) (hno2 : PySem.W.findIn K (.ref C) f2 = some none) (hf : (f == f2) = false) (h : SpI K C [f, f2] vs H Q E) :
    XI.spI P K mg [self, p, p2] cda cc (tCons (tVar 1) (tCons (tVar 2) tNil)) (tSeq (tOst K f (tVar 0) (tVar 1)) (tOst K f2 (tVar 0) (tVar 2))) vs H Q E := by
  obtain ⟨a, us, rfl, hl, ha, q⟩ := h
  match us, hl with
  | [u, u2], _ =>
    refine ⟨rfl, a, C, D, [u, u2], rfl, T, S, ha, u, rfl, u2, rfl, by simp, ha, u, rfl, .ref a, rfl, a, C, rfl, T, hno, .inl ⟨ha, fun dx hn hd => ?_⟩⟩
    refine ⟨u2, rfl, .ref a, rfl, a, C, rfl, T, hno2, .inr ⟨dx, [(f, u)], upd_same, by rw [upd_ne hd, upd_same], by simp, ?_⟩⟩
    refine q dx [(f2, u2), (f, u)] _ hn hd (by rw [upd_ne (Ne.symm hd), upd_same]) upd_same (fun b h1 h2 => by rw [upd_ne h2, upd_ne h1, upd_ne h2]) ?_
    intro i g v h1 h2
    match i, h1, h2 with
    | 0, h1, h2 =>
      cases h1; cases h2
      simp [List.lookup, hf]
    | 1, h1, h2 =>
      cases h1; cases h2
      simp [List.lookup]
end
/-! ### what an error is worth -/
def erR (K : PySem.W.Frag) (CL : List (List Nat × Addr)) : Er → Hp → Value → Option Addr → Prop := fun e H cls d =>
  ∃ C, CL.lookup e.cls = some C ∧ cls = .ref C ∧ ∀ nm dt, e.fs.lookup nm = some dt → ∃ (dd : Addr) (fs : List (Str × V)) (v : V), d = some dd ∧ H dd = some (.xd fs) ∧ fs.lookup (mk nm) = some v ∧ ∀ ι, VR K ι H dt v
/-- raise C(e, ..) -/
def fRaise (c : List Nat) (fl : List (List Nat)) (fa : FA) : FS := fun env h => (fa env h).bnd fun xs h1 => match dall (dcl h1) xs with
  | some ds => if ds.length = fl.length ∧ purs ds = true ∧ fl.length ≤ 900 then .er ⟨c, fl.zip ds⟩ env h1 else .no
  | none => .no
def tRz (C : Addr) (sp : Sp) (W : Wx) (ta : TA) : TS := fun _ σ H => tMkO C sp [] ta σ H fun cls d H' => W cls d σ H'
theorem zip_lookup : ∀ {fl : List (List Nat)} {ds : List D} {nm : List Nat} {d : D}, (fl.zip ds).lookup nm = some d → ∃ i : Nat, fl[i]? = some nm ∧ ds[i]? = some d
  | [], _, _, _, h => by simp at h
  | _ :: _, [], _, _, h => by simp at h
  | f :: fl, x :: ds, nm, d, h => by
    rw [List.zip_cons_cons] at h
    by_cases e : (nm == f) = true
    · simp only [List.lookup, e] at h
      cases h
      have e' : nm = f := by simpa using e
      exact ⟨0, by rw [e']; rfl, rfl⟩
    · have e : (nm == f) = false := by simpa using e
      simp only [List.lookup, e] at h
      obtain ⟨i, h1, h2⟩ := zip_lookup h
      exact ⟨i + 1, h1, h2⟩
theorem pur_at : ∀ {ds : List D} {i : Nat} {d : D}, purs ds = true → ds[i]? = some d → d.pur = true
  | [], i, d, _, h => by simp at h
  | x :: ds, 0, d, p, h => by
    have p' : (x.pur && purs ds) = true := by rw [← purs_cons]; exact p
    rw [Bool.and_eq_true] at p'
    cases h
    exact p'.1
  | x :: ds, i + 1, d, p, h => by
    have p' : (x.pur && purs ds) = true := by rw [← purs_cons]; exact p
    rw [Bool.and_eq_true] at p'
    exact pur_at p'.2 h
section
variable {g : G} {W : Wx} {ta : TA} {fa : FA} {CL : List (List Nat × Addr)} {C : Addr}
theorem sim_raise {c : List Nat} {fl : List (List Nat)} (hE : g.er = erR g.K CL) (hC : CL.lookup c = some C) (ha : SimA g W ta fa) : SimS g W (tRz C (SpI g.K C (fl.map mk)) W ta) (fRaise c fl fa) := by
  intro H0 sp ι h H env σ Z R E w
  refine ha H0 sp ι h H env σ _ R E (WP.bnd w fun xs h1 ι1 H1 R1 S1 w1 vs q => ?_)
  cases hd : dall (dcl h1) xs with
  | none => rw [hd] at w1; exact w1.elim
  | some ds =>
    rw [hd] at w1
    have q' : VRs g.K [] H1 ds vs := dall_ok (fun d v d' qd e => dcl_nil R1 qd e) q hd
    by_cases hc : ds.length = fl.length ∧ purs ds = true ∧ fl.length ≤ 900
    · simp only [if_pos hc] at w1
      obtain ⟨hl, hp, h9⟩ := hc
      have hlv := q'.length
      refine ⟨by omega, fun a na => ⟨a, vs, by rw [List.append_nil], by rw [List.length_map]; omega, upd_same, fun d fs H2 n2 hd2 e1 e2 eo hf => ⟨rfl, d, fs, e1, e2, ?_, ?_⟩⟩⟩
      · rwa [upd_ne hd2] at n2
      · have nd : H1 d = none := by rwa [upd_ne hd2] at n2
        have sm : ∀ b o, H1 b = some o → (upd (del H2 a) d (.xd fs)) b = some o := fun b o e => by
          have h1 : b ≠ d := ne_of_none e nd
          have h2 : b ≠ a := ne_of_none e na
          rw [upd_ne h1, del_ne h2, eo b h2 h1, upd_ne h2]
          exact e
        obtain ⟨R2, S2⟩ := R1.grow sm
        refine w1 ι1 _ (.ref C) (some d) σ R2 S2 ?_ ((E.mono S1).mono S2)
        rw [hE]
        refine ⟨C, hC, rfl, fun nm dt e => ?_⟩
        obtain ⟨i, h1, h2⟩ := zip_lookup e
        obtain ⟨v, h3, h4⟩ := q'.get h2
        have hpd := pur_at hp h2
        refine ⟨d, fs, v, rfl, upd_same, hf i (mk nm) v (by rw [List.getElem?_map, h1]; rfl) h3, fun ι' => ?_⟩
        exact VR.pur dt v hpd (VR.mono (Stp.mk (fun _ _ e => e) (fun b o e n => ⟨sm b o e, n⟩) (fun b o e _ => sm b o e) : Stp [] H1 [] _) dt v h4)
    · simp only [if_neg hc] at w1
      exact w1.elim
/-- a call of a def that may raise -/
def fCallX (F : List D → RP) (fa : FA) : FE := fun env h => (fa env h).bnd fun xs h1 => match dall (dcl h1) xs with
  | some ds => match F ds with
    | .val d => .ok d h1
    | .obj o => .ok (.ref h1.length) (h1 ++ [o])
    | .er e => .er e env h1
    | .no => .no
  | none => .no
theorem sim_callX {F : List D → RP} (ha : SimA g W ta fa) : SimE g W (tCallSD (SpP g F) [] (WE W) ta) (fCallX F fa) := by
  intro H0 sp ι h H env σ Q R E1 w
  refine ha H0 sp ι h H env σ _ R E1 (WP.bnd w fun xs h1 ι1 H1 R1 S1 w1 vs q => ?_)
  rw [List.append_nil]
  cases hd : dall (dcl h1) xs with
  | none => rw [hd] at w1; exact w1.elim
  | some ds =>
    rw [hd] at w1
    have q' : VRs g.K [] H1 ds vs := dall_ok (fun d v d' qd e => dcl_nil R1 qd e) q hd
    refine ⟨ds, q', ?_⟩
    cases hF : F ds with
    | no => simp only [hF] at w1; exact w1
    | er e =>
      simp only [hF] at w1
      intro H' cls d sm he
      obtain ⟨R2, S2⟩ := R1.grow sm
      exact w1 ι1 H' cls d σ R2 S2 he ((E1.mono S1).mono S2)
    | val d =>
      simp only [hF] at w1
      exact fun H' v sm qv => w1.at (R1.grow sm) v (qv _)
    | obj o =>
      simp only [hF] at w1
      intro H' a sm ha qo
      obtain ⟨R2, S2⟩ := R1.adopt (o := o) sm ha fun _ => qo _
      refine w1.at ⟨R2, S2⟩ (.ref a) ?_
      unfold VR
      exact ⟨a, rfl, by rw [← R1.len]; simp⟩
end
/-! ### defs that may raise -/
theorem def_okX {P : Program} {w : World} {g : G} {mg : Str → Option Value} {base : Heap} {x qual : Str} {st : Stmt} {f : Addr} {fd : FuncData} {N ps : List Str} {k : Nat} {fs : FS} {F : List D → RP} (FF : Fun g.K x qual st f fd) (S : FnScope N ps (defScope st))
    (hb : ∀ (cdv : Value) (A : Around) (outer : List Env) (s : Shared) (H : Hp) (E : XK), Room k (A.deeper (envOfC qual (defScope st) s.heap.objs.size f cdv)) → Takes (cxOf (L2.CX P w) P w g.K mg base N qual (defScope st) f cdv A outer s H E) (fun cls d _ H' => E cls d H') →
      ∃ t, PSs (cxOf (L2.CX P w) P w g.K mg base N qual (defScope st) f cdv A outer s H E) (defBody st) t ∧ SimS g (fun cls d _ H' => E cls d H') t fs)
    (ref : ∀ ds, F ds ≠ .no → runP ps.length N.length fs ds = F ds) : FnOk P w g.K mg base (L2.CX P w) (k + 1) f fd ps (SpP g F) := by
  have hlen : ∀ ds, F ds ≠ .no → ds.length = ps.length := fun ds h => by
    have e := ref ds h
    unfold runP at e
    by_cases c : ds.length = ps.length
    · exact c
    · rw [if_neg c] at e; exact absurd e.symm h
  have hps : ps.length ≤ N.length := by have := congrArg List.length S.pre; rw [List.length_take] at this; omega
  have notno : ∀ {ds H Q E}, PostP g H Q E (F ds) → F ds ≠ .no := fun {ds H Q E} h e => by rw [e] at h; exact h
  refine FF.okX S (fun vs H Q E h => ?_) (fun cdv A outer s H vs Q E hr h => ?_)
  · obtain ⟨ds, q, m⟩ := h
    rw [← q.length]
    exact hlen ds (notno m)
  · obtain ⟨t, ht, sim⟩ := hb cdv A outer s H E hr (takes_of rfl rfl rfl rfl)
    refine ⟨t, ht, ?_⟩
    obtain ⟨ds, q, m⟩ := h
    have hn := notno m
    have hl := hlen ds hn
    have e := ref ds hn
    have R0 : Rel g.K H [] [] [] H := ⟨rfl, List.nodup_nil, fun n o z => by simp at z, fun a o z _ => z, fun a z => by simp at z, fun a z => by simp at z⟩
    have E0 := env_start (N := N) q (by omega)
    refine sim H [] [] [] H _ (L2.start N vs) _ R0 E0 ?_
    unfold runP at e
    rw [if_pos hl] at e
    rw [hl]
    cases hr : fs (ds.map some ++ List.replicate (N.length - ps.length) none) [] with
    | no => rw [hr] at e; exact absurd e.symm hn
    | er x v h1 =>
      rw [hr] at e
      have e : RP.er x = F ds := e
      rw [← e] at m
      exact fun ι' H' cls d σ' R' S' he _ => m H' cls d (same_of S' rfl) he
    | ok fl h1 =>
      rw [hr] at e
      cases fl with
      | nx e1 =>
        have e : RP.val .non = F ds := e
        rw [← e] at m
        exact fun ι' H' R' S' σ' _ => m H' .non (same_of S' rfl) fun ι => rfl
      | bk e1 => exact absurd e.symm hn
      | ct e1 => exact absurd e.symm hn
      | rt d =>
        have e : toP 0 d h1 = F ds := e
        rw [← e] at m
        intro ι' H' R' S' v qv
        unfold toP at m
        by_cases c : d.pur = true
        · rw [if_pos c] at m
          exact m H' v (same_of S' rfl) fun ι => VR.pur d v c qv
        · rw [if_neg c] at m
          cases d with
          | ref n =>
            simp only [Nat.not_lt_zero, if_false] at m
            cases ho : h1[n]? with
            | none => simp only [ho] at m; exact m.elim
            | some o =>
              simp only [ho] at m
              by_cases c2 : o.pur = true
              · rw [if_pos c2] at m
                obtain ⟨a, e1, q1⟩ := R'.ob n o ho
                unfold VR at qv
                obtain ⟨a', rfl, e2⟩ := qv
                rw [e1] at e2; cases e2
                exact m H' a (same_of S' rfl) (toP_fresh R' S' (fun a z => by simp at z) (Nat.zero_le n) e1) fun ι => q1.pur c2
              · rw [if_neg c2] at m; exact m.elim
          | _ => exact m.elim
end PF
namespace PF
open PySem PySem.Spec PyProof.Rows L2
/-! ### errors caught -/
/-- what is told of a caught error -/
inductive XIt where
  | c (d : D) | f (nm : List Nat)
def xit (e : Er) : List XIt → Option (List D)
  | [] => some []
  | .c d :: r => match xit e r with
    | some l => some (d :: l)
    | none => none
  | .f nm :: r => match e.fs.lookup nm, xit e r with
    | some d, some l => some (d :: l)
    | _, _ => none
def SimXA (g : G) (C : Addr) (i : Nat) (t : Addr → Value → Option Addr → TA) (its : List XIt) : Prop :=
  ∀ (a : Addr) (d : Option Addr) (H : Hp) (σ : L2.St) (e : Er) (CL : List (List Nat × Addr)) (Q : List V → Hp → Prop) (ds : List D), erR g.K CL e H (.ref C) d → σ[i]? = some (some (.ref a)) → xit e its = some ds →
    (∀ vs, (∀ ι, VRs g.K ι H ds vs) → Q vs H) → t a (.ref C) d σ H Q
section
variable {g : G} {C : Addr} {i : Nat} {t : Addr → Value → Option Addr → TA} {its : List XIt}
theorem simx_nil : SimXA g C i (fun _ _ _ => tNil) [] := fun a d H σ e CL Q ds he hs hx k => by
  cases hx
  exact k [] fun _ => rfl
theorem simx_str {x : Str} (s : List Nat) (ht : SimXA g C i t its) (e : x = mk s := by decide +kernel) (hl : s.length ≤ 16777216 := by decide) (hc : ∀ c ∈ s, c < 1114112 := by decide) : SimXA g C i (fun a cls d => tCons (tC (.str x)) (t a cls d)) (.c (.str s) :: its) := fun a d H σ er CL Q ds he hs hx k => by
  unfold xit at hx
  cases hr : xit er its with
  | none => rw [hr] at hx; cases hx
  | some l =>
    rw [hr] at hx
    cases hx
    refine ht a d H σ er CL _ l he hs hr fun vs q => k (.str x :: vs) fun ι => .cons ?_ (q ι)
    unfold VR
    exact ⟨by rw [e], hl, hc⟩
theorem simx_f {f : Str} (nm : List Nat) (ht : SimXA g C i t its) (e : f = mk nm := by decide +kernel) : SimXA g C i (fun a cls d => tCons (tXf a cls d C f (tVar i)) (t a cls d)) (.f nm :: its) := fun a d H σ er CL Q ds he hs hx k => by
  unfold xit at hx
  cases hl : er.fs.lookup nm with
  | none => rw [hl] at hx; cases hx
  | some dt =>
    cases hr : xit er its with
    | none => rw [hl, hr] at hx; cases hx
    | some l =>
      rw [hl, hr] at hx
      cases hx
      obtain ⟨C', h1, h2, h3⟩ := id he
      obtain ⟨dd, fs, v, e1, e2, e3, e4⟩ := h3 nm dt hl
      refine ⟨.ref a, hs, rfl, rfl, dd, fs, v, e1, e2, by rw [e]; exact e3, ?_⟩
      exact ht a d H σ er CL _ l he hs hr fun vs q => k (v :: vs) fun ι => .cons (e4 ι) (q ι)
end
/-- the clause's answer -/
def fCaught (c : List Nat) (its : List XIt) (e : Er) (h : Hs) : R Fl := match xit e its with
  | some ds => if ds.length ≤ 1000 then .ok (.rt (.tup ds)) h else .no
  | none => .no
/-- try: .. except C as e: return (.., e.f) -/
def fTryAs (i : Nat) (c : List Nat) (fb : FS) (its : List XIt) : FS := fun env h => match fb env h with
  | .ok fl h1 => .ok fl h1
  | .er e env1 h1 => if e.cls = c then (if i < env1.length then fCaught c its e h1 else .no) else .er e env1 h1
  | .no => .no
section
variable {g : G} {W : Wx} {CL : List (List Nat × Addr)} {C : Addr} {i : Nat} {t : Addr → Value → Option Addr → TA} {its : List XIt} {c : List Nat} {fb : FS}
theorem vr_tup {K : PySem.W.Frag} {ι : List Addr} {H : Hp} {ds : List D} {vs : List V} {p : Addr} (n : H p = none) (q : VRs K ι H ds vs) : VR K ι (upd H p (.tup vs)) (.tup ds) (.ref p) := by
  unfold VR
  refine ⟨p, vs, rfl, upd_same, ?_⟩
  have st : Stp ι H ι (upd H p (.tup vs)) := ⟨fun _ _ e => e, fun b o e m => ⟨by rw [upd_ne (ne_of_none e n)]; exact e, m⟩, fun b o e _ => by rw [upd_ne (ne_of_none e n)]; exact e⟩
  exact VRs.mono st ds vs q
theorem sim_tryAs {tb : Wx → TS} (hE : g.er = erR g.K CL) (hC : ∀ c' C', CL.lookup c' = some C' → PySem.W.exmOne g.K (.ref C') (.ref C) = some (decide (c' = c))) (hc : CL.lookup c = some C) (hb : ∀ W', SimS g W' (tb W') fb) (hs : SimXA g C i t its) :
    SimS g W (fun Z σ H => tb (wAs g.K (.ref C) i (fun a cls d => tRet (tTup (t a cls d))) W Z) Z σ H) (fTryAs i c fb its) := by
  intro H0 sp ι h H env σ Z R E w
  refine hb _ H0 sp ι h H env σ Z R E ?_
  unfold fTryAs at w
  cases hf : fb env h with
  | no => rw [hf] at w; exact w
  | ok fl h1 => rw [hf] at w; exact w
  | er e env1 h1 =>
    rw [hf] at w
    simp only [] at w
    intro ι' H' cls d σ' R' S' he E'
    have he0 := he
    rw [hE] at he
    obtain ⟨C', h1', rfl, hfs⟩ := id he
    refine ⟨decide (e.cls = c), hC _ _ h1', fun hb' a na => ?_, fun hb' => ?_⟩
    · have ec : e.cls = c := of_decide_eq_true hb'
      rw [ec, hc] at h1'
      cases h1'
      rw [if_pos ec] at w
      by_cases hi : i < env1.length
      · rw [if_pos hi] at w
        unfold fCaught at w
        cases hx : xit e its with
        | none => rw [hx] at w; exact w.elim
        | some ds =>
          rw [hx] at w
          simp only [] at w
          by_cases hl : ds.length ≤ 1000
          · rw [if_pos hl] at w
            refine hs a d H' _ e CL _ ds he (List.getElem?_set_self (by rw [← E'.1]; exact hi)) hx fun vs qv => ⟨by rw [← (qv []).length, sizeLine_eq]; omega, fun p np => ?_⟩
            obtain ⟨R2, S2⟩ := R'.tmp (o := .tup vs) np
            exact w ι' _ R2 (S'.trans S2) (.ref p) (vr_tup np (qv ι'))
          · rw [if_neg hl] at w; exact w.elim
      · rw [if_neg hi] at w; exact w.elim
    · rw [if_neg (of_decide_eq_false hb')] at w
      exact w ι' H' (.ref C') d σ' R' S' he0 E'
end
/-! ### a lambda handed to a def that calls it and tells what comes -/
/-- what f makes of the lambda's reading: try: return (s1, act()) / except C as e: return (..) -/
def TTh (K : PySem.W.Frag) (CS : Addr) (i : Nat) (s1 : Str) (ts : Addr → Value → Option Addr → TS) (n : Nat) : (XK → Hp → VK → Prop) → Hp → VK → Prop := fun tl H Q =>
  tl (fun cls d H' => ∀ σ', σ'.length = n → wAs K (.ref CS) i ts (fun _ _ _ _ => False) { nx := fun _ H' => Q .non H', rt := Q } cls d σ' H') H (fun v H1 => [V.str s1, v].length ≤ sizeLine ∧ ∀ p, H1 p = none → Q (.ref p) (upd H1 p (.tup [V.str s1, v])))
theorem takes_len {X : Cx} {W : WX} (tk : Takes X W) : Takes X (fun cls d σ H => σ.length = X.N.length → W cls d σ H) := fun u s' ⟨a, B, sI, pins, σ, H, cls, d, e, I, nb, up, sky, na, os, ag, w⟩ =>
  tk u s' ⟨a, B, sI, pins, σ, H, cls, d, e, I, nb, up, sky, na, os, ag, w I.len⟩
theorem gives2 {X : Cx} {Ng : List Str} {x a e n q s1 : Str} {sg : Scope} {gA CS : Addr} {cdg : Value} {j i x1 : Nat} {b₀ : Stmt} {suite : List Stmt} {ts : Addr → Value → Option Addr → TS} {p1 p2 p3 p4 p7 p8 q1 q2 : Pos} (hnd : Ng.Nodup) (hi : Ng[i]? = some n)
    (hln : ∀ (s : Shared) (H : Hp), ((cxOf C8.CX0 X.prog X.w X.K X.mg X.base Ng x sg gA cdg X.A X.stack s H C8.E0).nox).env.kindOf n = some .local)
    (hge : sg.names.lookup e = some .globalImplicit) (hme : X.mg e = some (.ref CS)) (hde : (e == ("__debug__" : Str)) = false) (h0 : ∀ f : Addr, (L2.start Ng [V.ref f])[0]? = some (some (V.ref f)))
    (hsu : ∀ (s : Shared) (H : Hp) (a : Addr) (oe : Obj) (cls : Value) (d : Option Addr) (pn : List (Addr × Obj)), Zc cls d oe → (∃ vs, oe.data = .fields vs) → PSs (((cxOf C8.CX0 X.prog X.w X.K X.mg X.base Ng x sg gA cdg X.A X.stack s H C8.E0).nox).suite a ((a, oe) :: pn)) (b₀ :: suite) (ts a cls d)) :
    LamX.GivesTo X Ng x sg gA cdg [.Try [.Return (some (.Tuple [.Constant (.str s1) j q1, .Call (.Name a p1) [] [] p2] x1 q2)) p3] [.ExceptHandler (some (.Name e p4)) (some n) (b₀ :: suite) p7] [] [] p8] a q (TTh X.K CS i s1 ts Ng.length) := by
  intro f c' s H Q tl act hc h
  have hgl : Gl ((cxOf C8.CX0 X.prog X.w X.K X.mg X.base Ng x sg gA cdg X.A X.stack s H C8.E0).nox) e := hge
  refine ⟨_, pss_one (ps_try_as (X := (cxOf C8.CX0 X.prog X.w X.K X.mg X.base Ng x sg gA cdg X.A X.stack s H C8.E0).nox) (c := .ref CS) (i := i)
      (tb := fun W D σ H => ∃ Ech : XK, (∀ cls d σ' H', Ech cls d H' → σ'.length = Ng.length → W cls d σ' H') ∧ σ[0]? = some (some (.ref f)) ∧ H c' = some (LamX.CodeO c' q) ∧ tl Ech H (fun v H1 => [V.str s1, v].length ≤ sizeLine ∧ ∀ p, H1 p = none → D.rt (.ref p) (upd H1 p (.tup [V.str s1, v]))))
      rfl rfl hnd hi (hln s H) ⟨hgl, hde, .inl hme⟩ LamX.takes0 (fun W pn xe tk _ => ?_) (fun a oe cls d pn h1 h2 => hsu s H a oe cls d pn h1 h2)), ?_⟩
  · refine ⟨fun pins s' σ H' D I h' => ?_⟩
    obtain ⟨Ech, hW, h1, h2, h3⟩ := h'
    have hp := act _ pn xe Ech p1 p2 (takes_len tk) hW
    have hq := pss_one (ps_ret (pos := p3) (pe_tup (x1 := x1) (pos := q2) (pa_cons (pe_str (x := s1) (j := j) (pos := q1)) (pa_cons hp pa_nil))))
    exact hq.run pins s' σ H' D I ⟨h1, h2, h3⟩
  · exact ⟨_, fun cls d σ' H' hw hl => hw σ' hl, h0 f, hc, h⟩
end PF
namespace PF
open PySem PySem.Spec PyProof.Rows L2 LamX
/-- all but the object at P stays -/
def ExtP (P : Addr) (H H' : Hp) : Prop := ∀ b o, b ≠ P → H b = some o → H' b = some o
section
variable {X : Cx} {pins : List (Addr × Obj)} {σ : L2.St} {H : Hp} {s : Shared}
/-- a lambda is made: only its table is written -/
theorem lam_mk {c P : Addr} {q : Str} {params : Arguments} {body : Expr} {scope : Scope} {pos : Pos} {E : Value → Shared → Prop} {Q : Value → Shared → Prop} (I : Inv X pins σ H s) (TB : TabB X.base X.mg c P) (hcode : X.env.code = .ref c) (hq : X.env.qual ++ "<lambda>" = q)
    (hT : TabS H P q) (hdef : defaultsOf params X.env = ([], [])) (hfree : ∀ y ∈ scope.names, y.2 = .free → ∃ c, X.env.cells.lookup y.1 = some c)
    (h : ∀ (f c' : Addr) (pm ctv : Value) (H1 : Hp) (s' : Shared), Inv X pins σ H1 s' → ExtP P H H1 → TabS H1 P q →
      s'.heap.get? f = some (PySem.W.kla_obj "<lambda>" (X.env.qual ++ "<lambda>") params body scope (cloFrom X.env.cells scope.names []) pm c' ctv) → H1 f = none → f ∉ frs X.stack → H1 c' = some (CodeO c' (X.env.qual ++ "<lambda>")) → Q (.ref f) s') :
    wpAny (model X.prog X.w) X.A (eval (.Lambda params body scope pos) X.env) Q E s := by
  subst hq
  obtain ⟨ps, hP, ht, ha⟩ := hT
  have hP' : s.heap.get? P = some { cls := .none, data := .fields ps } := I.hok P _ hP
  have nofr : ∀ f, s.heap.objs.size ≤ f → f ∉ frs X.stack := fun f hf z => (List.mem_cons.mp (I.stkSub _ z)).elim (fun e => Nat.lt_irrefl _ (Nat.lt_of_lt_of_le (e ▸ I.lt) hf)) fun e => I.nofs hf e
  refine PySem.W.kla_eval hdef ?_
  cases hc : codeAmong pos ps.toList with
  | some cv =>
    obtain ⟨c', rfl, hco⟩ := ha pos cv hc
    refine PySem.W.kla_makeFunctionHit (mg := X.mg) (c := c) (P := P) (ps := ps) (closure_ok hfree) I.ok.glob (I.mod.glob.keeps I.bk) hcode (TB.code.keeps I.bk) hP' ht hc (TB.bm.keeps I.bk) fun ctv h' tk hx hsz => ?_
    exact h h'.objs.size c' ((X.mg "__name__").getD .none) ctv H _ (I.kept (t' := tk) fun b o e => Heap.get?_push_of_some _ (hx b o e)) (fun _ _ _ e => e) ⟨ps, hP, ht, ha⟩ (Heap.get?_push_size _ rfl) (I.hok.fresh hsz) (nofr _ hsz) hco
  | none =>
    refine PySem.W.kla_makeFunction (mg := X.mg) (c := c) (P := P) (ps := ps) (closure_ok hfree) I.ok.glob (I.mod.glob.keeps I.bk) hcode (TB.code.keeps I.bk) hP' ht hc TB.gP (TB.bm.keeps I.bk) fun c' ctv h' tk hx hge hlt hrec htb => ?_
    obtain ⟨c2, oc, vs, t, e2, hoc, hd, hv⟩ := hrec
    cases e2
    have nC : H c' = none := I.hok.fresh hge
    have hsz : s.heap.objs.size ≤ h'.objs.size := Nat.le_trans hge (Nat.le_of_lt hlt)
    have J := inv_table (q := X.env.qual ++ "<lambda>") (t' := tk) (more := #[rawInt pos.line, rawInt pos.col, .ref c']) (h' := h'.push (PySem.W.kla_obj "<lambda>" (X.env.qual ++ "<lambda>") params body scope (cloFrom X.env.cells scope.names []) ((X.mg "__name__").getD .none) c' ctv)) I hP
      (fun b o hb e => Heap.get?_push_of_some _ (hx b o hb e)) (Heap.get?_push_of_some _ htb) hge ⟨oc, vs, t, Heap.get?_push_of_some _ hoc, hd, hv⟩
    have eP : ExtP P H (upd (upd H P (.tbl (ps ++ #[rawInt pos.line, rawInt pos.col, .ref c']))) c' (CodeO c' (X.env.qual ++ "<lambda>"))) := fun b o n e => by
      rw [upd_ne (ne_of_none e nC), upd_ne n]
      exact e
    have eL : (ps ++ #[rawInt pos.line, rawInt pos.col, .ref c']).toList = ps.toList ++ [rawInt pos.line, rawInt pos.col, .ref c'] := by simp
    refine h h'.objs.size c' ((X.mg "__name__").getD .none) ctv _ _ J eP ⟨_, by rw [upd_ne (ne_of_none hP nC), upd_same], by rw [eL]; exact PySem.TriplesOk_snoc _ _ _ _ ht, fun p' cv hcv => ?_⟩ (Heap.get?_push_size _ rfl) ?_ (nofr _ hsz) upd_same
    · rw [eL] at hcv
      rcases among_app _ ht hcv with z | z
      · obtain ⟨c0, e1, e3⟩ := ha p' cv z
        have n0 : c0 ≠ P := fun z => by
          rw [z, hP] at e3
          exact codeO_ne ps (Option.some.inj e3).symm
        exact ⟨c0, e1, eP _ _ n0 e3⟩
      · exact ⟨c', z, upd_same⟩
    · have n1 : h'.objs.size ≠ c' := Nat.ne_of_gt hlt
      have n2 : h'.objs.size ≠ P := Nat.ne_of_gt (Nat.lt_of_lt_of_le (Heap.lt_size hP') hsz)
      rw [upd_ne n1, upd_ne n2]
      exact I.hok.fresh hsz
end
def tLamP (P : Addr) (q : Str) (TT : (XK → Hp → VK → Prop) → Hp → VK → Prop) (t : XK → TE) : TE := fun σ H Q => TabS H P q ∧ ∀ H1, ExtP P H H1 → TabS H1 P q → TT (fun E H' Q' => t E σ H' Q') H1 Q
/-- x(lambda: body) -/
theorem pe_lamP {X : Cx} {TT : (XK → Hp → VK → Prop) → Hp → VK → Prop} {q x a : Str} {gA c P : Addr} {st : Stmt} {fdg : FuncData} {k : Nat} {Ng : List Str} {params : Arguments} {body : Expr} {scope : Scope} {t : XK → TE} {p lpos pos : Pos} (FF : Fun X.K x x st gA fdg) (hm : X.mg x = some (.ref gA)) (hb : L2.Binds X.K fdg [a] [])
    (hg : Gl X x) (Sg : FnScope Ng [a] (defScope st)) (hNg : Ng[0]? = some a) (hva : Vis (defScope st) a)
    (hG : ∀ cdv, GivesTo X Ng x (defScope st) gA cdv (defBody st) a (X.env.qual ++ "<lambda>") TT)
    (TB : TabB X.base X.mg c P) (hcode : X.env.code = .ref c) (hq : X.env.qual ++ "<lambda>" = q) (hr : Room (k + 2) X.A) (L : LamS X.env.scope scope) (hdef : defaultsOf params X.env = ([], []))
    (hbind : ∀ (q : Str) (cl : List (Str × Addr)) (pm cv ctv : Value), bindArgs (PySem.W.kla_fn "<lambda>" q params body scope cl pm cv ctv) ⟨[], []⟩ = pure [])
    (hbody : ∀ (A : Around) (outer : List Env) (s : Shared) (H : Hp) (E : XK) (f c' : Addr), Room k (A.deeper (lamEnv X scope s.heap.objs.size f c')) → Takes (lamCx X A outer s H E scope f c') (fun cls d _ H' => E cls d H') → PE (lamCx X A outer s H E scope f c') body (t E))
    (hdb : (x == ("__debug__" : Str)) = false := by decide) (hd : (a == ("__debug__" : Str)) = false := by decide) (hcd : (a == ("__classdict__" : Str)) = false := by decide) :
    PE X (.Call (.Name x p) [.Lambda params body scope lpos] [] pos) (tLamP P q TT t) := by
  obtain ⟨oc, od, kV, doc, pm, an, cdv, ct, osl, rfl, lk, hcg⟩ := FF.ex
  refine ⟨fun pins s σ H Q I h => ?_⟩
  obtain ⟨hT, h⟩ := h
  refine wpAny_Call_Name_kw (ld_glob I hg hm (PySem.W.callWith_K (h₀ := X.base) I.ok.mod.kin FF.kp ?_ (by rfl) (by rfl)) hdb)
  show wpAny _ _ (spliced ((false, eval (.Lambda params body scope lpos) X.env) :: backTo pos (starEach [] X.env))) _ _ s
  refine Calls.spliced_cons (lam_mk I TB hcode hq hT hdef (L.has I.ok) fun f c' pm' ctv H1 s' I1 eN T1 hf hfn hfr hco => Calls.spliced_nil ⟨I1.kIn, ?_⟩)
  have rc : codeAny (model X.prog X.w) X.A (.call (.ref gA) ⟨[.ref f], []⟩) (CR C8.CX0 X.stack X.prog X.w H1 s' Q C8.E0) s' := by
    refine run_ofS (N := Ng) (ps := [a]) (us := [.ref f]) (vs := [.ref f]) lk hcg Sg hr I1.env0 (hb s' [.ref f] I1.kIn rfl) (.cons rfl .nil) rfl fun hr' => ?_
    obtain ⟨t', ht', hq'⟩ := hG cdv f c' s' H1 Q (fun E H' Q' => t E σ H' Q') (fun W pn xe E p1 p2 tk hW => pe_act (i := 0) I1 L hf hfn hfr (hbind _ _ _ _ _) tk hW hr' (fun A outer s H hr2 => hbody A outer s H E f c' hr2 (takes_of rfl rfl rfl rfl)) hNg hva hd hcd) hco (h H1 eN T1)
    exact ⟨t', ht'.nox, hq'⟩
  refine wpAny_call (codeAny_mono rc fun r s2 hq => ?_)
  cases r with
  | error e => exact (show False from hq).elim
  | ok fl =>
    cases fl with
    | ret u => exact I1.after hq
    | next => exact False.elim hq
    | brk => exact False.elim hq
    | cont => exact False.elim hq
/-- f(lambda: e), f telling of it -/
def fHeard (i n : Nat) (s1 c : List Nat) (its : List XIt) (fe : FE) : FE := fun env h => match h[0]? with
  | some Ob.tb => match fe env h with
    | .ok d h1 => .ok (.tup [.str s1, d]) h1
    | .er e _ h1 => if e.cls = c then (match xit e its with
      | some ds => if ds.length ≤ 1000 then .ok (.tup ds) h1 else .no
      | none => .no) else .no
    | .no => .no
  | _ => .no
section
variable {g : G} {W : Wx} {CL : List (List Nat × Addr)} {C : Addr} {i n : Nat} {t : Addr → Value → Option Addr → TA} {its : List XIt} {c : List Nat}
theorem Rel.lam {K : PySem.W.Frag} {H0 H H1 : Hp} {sp ι : List Addr} {h : Hs} {P : Addr} (R : Rel K H0 sp ι h H) (h0 : h[0]? = some Ob.tb) (hP : (PySem.W.tabIn K "law").map (·.2) = some P) (e : ExtP P H H1) (T1 : TabS H1 P "law.<locals>.<lambda>") : Rel K H0 sp ι h H1 ∧ Stp ι H ι H1 := by
  obtain ⟨a, i1, i2, i3⟩ := R.ob 0 _ h0
  rw [hP] at i2
  cases i2
  have mP : P ∈ ι := List.mem_of_getElem? i1
  obtain ⟨ps, hps, _⟩ := i3
  have st : Stp ι H ι H1 := ⟨fun _ _ e => e, fun b o q m => ⟨e b o (fun z => m (z ▸ mP)) q, m⟩, fun b o q t => e b o (fun z => by rw [z, hps] at q; cases q; exact t) q⟩
  refine ⟨⟨R.len, R.nd, fun m o q => ?_, fun b o q nb => e b o (fun z => nb (z ▸ mP)) (R.base b o q nb), R.new, R.spin⟩, st⟩
  obtain ⟨b, j1, j2⟩ := R.ob m o q
  refine ⟨b, j1, ?_⟩
  by_cases hb : b = P
  · subst hb
    cases o with
    | tb => exact ⟨hP, T1⟩
    | lst ds =>
      obtain ⟨vs, e1, _⟩ := j2
      rw [hps] at e1; cases e1
    | dtt kvs =>
      obtain ⟨us, e1, _⟩ := j2
      rw [hps] at e1; cases e1
    | dct kvs =>
      obtain ⟨us, e1, _⟩ := j2
      rw [hps] at e1; cases e1
  · obtain ⟨u, hu, _⟩ := j2.there
    exact j2.mono st ((e b u hb hu).trans hu.symm)
theorem sim_heard {P : Addr} {te : XK → TE} {fe : FE} {x1 : Str} {s1 : List Nat} (hP : (PySem.W.tabIn g.K "law").map (·.2) = some P) (hE : g.er = erR g.K CL) (hC : ∀ c' C', CL.lookup c' = some C' → PySem.W.exmOne g.K (.ref C') (.ref C) = some (decide (c' = c))) (hc : CL.lookup c = some C)
    (hb : ∀ E : XK, SimE g (fun cls d _ H' => E cls d H') (te E) fe) (hs : SimXA g C i t its) (hi : i < n) (e1 : x1 = mk s1 := by decide +kernel) (hl1 : s1.length ≤ 16777216 := by decide) (hc1 : ∀ c ∈ s1, c < 1114112 := by decide) :
    SimE g W (tLamP P "law.<locals>.<lambda>" (TTh g.K C i x1 (fun a cls d => tRet (tTup (t a cls d))) n) te) (fHeard i n s1 c its fe) := by
  intro H0 sp ι h H env σ Q R E w
  unfold fHeard at w
  cases h0 : h[0]? with
  | none => rw [h0] at w; exact w.elim
  | some o =>
    cases o with
    | lst ds => rw [h0] at w; exact w.elim
    | dct kvs => rw [h0] at w; exact w.elim
    | dtt kvs => rw [h0] at w; exact w.elim
    | tb =>
      rw [h0] at w
      simp only [] at w
      obtain ⟨a, i1, i2, i3⟩ := R.ob 0 _ h0
      rw [hP] at i2
      cases i2
      refine ⟨i3, fun H1 eP T1 => ?_⟩
      obtain ⟨R1, S1⟩ := R.lam h0 hP eP T1
      refine hb _ H0 sp ι h H1 env σ _ R1 (E.mono S1) ?_
      cases hf : fe env h with
      | no => rw [hf] at w; exact w
      | ok d h1 =>
        rw [hf] at w
        intro ι' H' R' S' v qv
        refine ⟨by rw [sizeLine_eq]; simp, fun p np => ?_⟩
        obtain ⟨R2, S2⟩ := R'.tmp (o := .tup [V.str x1, v]) np
        refine w ι' _ R2 ((S1.trans S').trans S2) (.ref p) (vr_tup np (.cons ?_ (.cons qv rfl)))
        unfold VR
        exact ⟨by rw [e1], hl1, hc1⟩
      | er e env1 h1 =>
        rw [hf] at w
        simp only [] at w
        intro ι' H' cls d σ' R' S' he E' σ'' hl
        rw [hE] at he
        obtain ⟨C', h1', rfl, hfs⟩ := id he
        refine ⟨decide (e.cls = c), hC _ _ h1', fun hb' a na => ?_, fun hb' => ?_⟩
        · have ec : e.cls = c := of_decide_eq_true hb'
          rw [ec, hc] at h1'
          cases h1'
          rw [if_pos ec] at w
          cases hx : xit e its with
          | none => rw [hx] at w; exact w.elim
          | some ds =>
            rw [hx] at w
            simp only [] at w
            by_cases hl : ds.length ≤ 1000
            · rw [if_pos hl] at w
              refine hs a d H' _ e CL _ ds he (List.getElem?_set_self (by omega)) hx fun vs qv => ⟨by rw [← (qv []).length, sizeLine_eq]; omega, fun p np => ?_⟩
              obtain ⟨R2, S2⟩ := R'.tmp (o := .tup vs) np
              exact w ι' _ R2 ((S1.trans S').trans S2) (.ref p) (vr_tup np (qv ι'))
            · rw [if_neg hl] at w; exact w.elim
        · rw [if_neg (of_decide_eq_false hb')] at w
          exact w.elim
end
end PF
namespace PF
open PySem PySem.Spec PyProof.Rows L2
/-! ### what a text says of an own error class -/
structure ExF (P : Program) (w : World) (K : PySem.W.Frag) (er : Er → Hp → Value → Option Addr → Prop) (mg : Str → Option Value) (base : Heap) (CL : List (List Nat × Addr)) (nm : Str) (c : List Nat) (fl : List Str) (C : Addr) : Prop where
  er : er = erR K CL
  cl : CL.lookup c = some C
  gl : mg nm = some (.ref C)
  T : OexC K C
  ini : ∃ (fI : Addr) (fd : FuncData) (ps : List Str), PySem.W.findIn K (.ref C) "__init__" = some (some (.ref fI)) ∧ PySem.W.typeIn K (.ref fI) = some (.type "function") ∧ Binds K fd ps [] ∧ FnOk P w K mg base C8.CX0 1 fI fd ps (SpI K C fl)
  xf : XfC K C
  no : ∀ f ∈ fl, PySem.W.findIn K (.ref C) f = some none
  ex : ∀ c' C', CL.lookup c' = some C' → PySem.W.exmOne K (.ref C') (.ref C) = some (decide (c' = c))
/-- raise C(e, ..) -/
theorem kRaise {X : Cx} {er : Er → Hp → Value → Option Addr → Prop} {CL : List (List Nat × Addr)} {nm : Str} {c : List Nat} {fl : List Str} {C : Addr} {W : WX} {e : Expr} {es : List Expr} {ta : TA} {p pos pos' : Pos} (F : ExF X.prog X.w X.K er X.mg X.base CL nm c fl C) (hc : X.calm = true) (hr : Room 2 X.A) (tk : Takes X W) (hg : Gl X nm) (ha : PA X (e :: es) ta)
    (hdb : (nm == ("__debug__" : Str)) = false := by decide) (he : starEach (e :: es) X.env = (false, eval e X.env) :: starEach es X.env := by rfl) (hpl : (backTo pos (starEach es X.env)).any (·.1) = false := by rfl) :
    PS X (.Raise (some (.Call (.Name nm p) (e :: es) [] pos)) none pos') (tRz C (SpI X.K C fl) W ta) := by
  obtain ⟨fI, fd, ps, i1, i2, i3, i4⟩ := F.ini
  exact ps_raise hc tk (pmk_oex F.T i1 i2 i4 hr i3 .nil (fun _ _ _ _ _ _ _ h => h.elim) hg F.gl ha hdb he hpl)
section
variable {P : Program} {w : World} {K : PySem.W.Frag} {er : Er → Hp → Value → Option Addr → Prop} {mg : Str → Option Value} {base : Heap} {CL : List (List Nat × Addr)} {nm : Str} {c : List Nat} {C : Addr}
theorem vis_of {N : List Str} {sc : Scope} (S : XI.ScI N sc) {x : Str} (h : x ∈ N) : Vis sc x := .inl (S.par x h)
theorem ini1 {f x self qual : Str} {fI cc cda D : Addr} {params : Arguments} {scope : Scope} {dV kV doc pm ct oc : Value} {an od : Option Addr} {osl : Array (Option Value)} {p0 p1 p2 p3 p4 pa pb pc pd pe : Pos} {ar : Arg}
    (hK : K.In base) (T : OexC K C) (SF : XI.SupF P K mg cda cc D C) (hno : PySem.W.findIn K (.ref C) f = some none)
    (lk : K.lookup fI = some ⟨oc, od, .func (PySem.W.ksFn "__init__" qual params [.Expr (.Call (.Attribute (.Call (.Name "super" p0) [] [] p1) "__init__" p2) [.Name x pa] [] p3) p4, .Assign [.Attribute (.Name self pb) f pc] (.Name x pd) pe] scope dV kV doc pm an (.ref cda) ct cc), osl⟩)
    (hcd : PySem.W.codeIn K (.ref cda) qual = true) (S : XI.ScI [self, x] scope) (hp : (params.posonlyargs ++ params.args).head? = some ar) (har : ar.arg = self)
    (hms : XI.HMs p0 p1 p2 p3 [.Name x pa] qual scope fI cc cda) (hx : (x == ("__debug__" : Str)) = false) (hx2 : (x == ("__classdict__" : Str)) = false) (hs : (self == ("__debug__" : Str)) = false) (hs2 : (self == ("__classdict__" : Str)) = false) :
    FnOk P w K mg base C8.CX0 1 fI (PySem.W.ksFn "__init__" qual params [.Expr (.Call (.Attribute (.Call (.Name "super" p0) [] [] p1) "__init__" p2) [.Name x pa] [] p3) p4, .Assign [.Attribute (.Name self pb) f pc] (.Name x pd) pe] scope dV kV doc pm an (.ref cda) ct cc) [self, x] (SpI K C [f]) := by
  obtain ⟨cl, cld, csl, hcl⟩ := SF.cell
  refine fn_weak (XI.fn_init (k := 0) (qs := [x]) lk hcd S hp har ⟨_, _, hK _ _ hcl, rfl⟩ (fun A outer s H E => ?_) (fun A outer s H E => ?_) (hms := hms)) fun vs H Q E h => spI1 T SF hno h
  · exact pa_cons (pe_var (i := 1) rfl (vis_of S (by simp)) hx hx2) pa_nil
  · exact pss_one (ps_ost (pe_var (i := 0) rfl (vis_of S (by simp)) hs hs2) (pe_var (i := 1) rfl (vis_of S (by simp)) hx hx2))
theorem ini2 {f f2 x x2 self qual : Str} {fI cc cda D : Addr} {params : Arguments} {scope : Scope} {dV kV doc pm ct oc : Value} {an od : Option Addr} {osl : Array (Option Value)} {p0 p1 p2 p3 p4 pa pa2 pb pc pd pe pb2 pc2 pd2 pe2 : Pos} {ar : Arg}
    (hK : K.In base) (T : OexC K C) (SF : XI.SupF P K mg cda cc D C) (hno : PySem.W.findIn K (.ref C) f = some none) (hno2 : PySem.W.findIn K (.ref C) f2 = some none) (hf : (f == f2) = false)
    (lk : K.lookup fI = some ⟨oc, od, .func (PySem.W.ksFn "__init__" qual params [.Expr (.Call (.Attribute (.Call (.Name "super" p0) [] [] p1) "__init__" p2) [.Name x pa, .Name x2 pa2] [] p3) p4, .Assign [.Attribute (.Name self pb) f pc] (.Name x pd) pe, .Assign [.Attribute (.Name self pb2) f2 pc2] (.Name x2 pd2) pe2] scope dV kV doc pm an (.ref cda) ct cc), osl⟩)
    (hcd : PySem.W.codeIn K (.ref cda) qual = true) (S : XI.ScI [self, x, x2] scope) (hp : (params.posonlyargs ++ params.args).head? = some ar) (har : ar.arg = self)
    (hms : XI.HMs p0 p1 p2 p3 [.Name x pa, .Name x2 pa2] qual scope fI cc cda) (hx : (x == ("__debug__" : Str)) = false) (hx2 : (x == ("__classdict__" : Str)) = false) (hy : (x2 == ("__debug__" : Str)) = false) (hy2 : (x2 == ("__classdict__" : Str)) = false) (hs : (self == ("__debug__" : Str)) = false) (hs2 : (self == ("__classdict__" : Str)) = false) :
    FnOk P w K mg base C8.CX0 1 fI (PySem.W.ksFn "__init__" qual params [.Expr (.Call (.Attribute (.Call (.Name "super" p0) [] [] p1) "__init__" p2) [.Name x pa, .Name x2 pa2] [] p3) p4, .Assign [.Attribute (.Name self pb) f pc] (.Name x pd) pe, .Assign [.Attribute (.Name self pb2) f2 pc2] (.Name x2 pd2) pe2] scope dV kV doc pm an (.ref cda) ct cc) [self, x, x2] (SpI K C [f, f2]) := by
  obtain ⟨cl, cld, csl, hcl⟩ := SF.cell
  refine fn_weak (XI.fn_init (k := 0) (qs := [x, x2]) lk hcd S hp har ⟨_, _, hK _ _ hcl, rfl⟩ (fun A outer s H E => ?_) (fun A outer s H E => ?_) (hms := hms)) fun vs H Q E h => spI2 T SF hno hno2 hf h
  · exact pa_cons (pe_var (i := 1) rfl (vis_of S (by simp)) hx hx2) (pa_cons (pe_var (i := 2) rfl (vis_of S (by simp)) hy hy2) pa_nil)
  · exact pss_cons (ps_ost (pe_var (i := 0) rfl (vis_of S (by simp)) hs hs2) (pe_var (i := 1) rfl (vis_of S (by simp)) hx hx2)) (pss_one (ps_ost (pe_var (i := 0) rfl (vis_of S (by simp)) hs hs2) (pe_var (i := 2) rfl (vis_of S (by simp)) hy hy2)))
end
/-! ### the law with a table of lambdas -/
def SpLT (g : G) (Pt : Addr) : Sp := fun vs H Q _ => ∃ (a : Addr) (ns : List Int), vs = [.ref a] ∧ SqL g.K H a (ns.map V.int) ∧ ns.length ≤ 63 ∧ H Pt = some (.tbl #[]) ∧ ∀ H', Q (.bl true) H'
theorem defLT_ok {P : Program} {w : World} {g : G} {mg : Str → Option Value} {base : Heap} {x qual : Str} {st : Stmt} {f c Pt : Addr} {fd : FuncData} {N : List Str} {p0 : Str} {k : Nat} {fs : FS} (FF : Fun g.K x qual st f fd) (S : FnScope N [p0] (defScope st)) (hn : PySem.W.nsIn g.K mainGlobals "law" = some (some (.ref f))) (hT : PySem.W.tabIn g.K "law" = some (c, Pt))
    (hb : ∀ (A : Around) (outer : List Env) (s : Shared) (H : Hp) (E : XK), Room k (A.deeper (envOfC qual (defScope st) s.heap.objs.size f (.ref c))) → ∃ t, PSs (cxOf C8.CX0 P w g.K mg base N qual (defScope st) f (.ref c) A outer s H E).nox (defBody st) t ∧ SimS g W0 t fs)
    (ref : ∀ ns : List Int, ns.length ≤ 63 → ∃ h, fs (([D.scr ns].map some) ++ List.replicate (N.length - 1) none) [Ob.tb] = .ok (.rt (.bl true)) h) : FnOk P w g.K mg base C8.CX0 (k + 1) f fd [p0] (SpLT g Pt) := by
  have hps : 1 ≤ N.length := by have := congrArg List.length S.pre; rw [List.length_take] at this; simp at this; omega
  obtain ⟨oc, od, kV, doc, pm, an, cdv, ct, osl, rfl, lk, hcd⟩ := FF.ex
  have hTP : (PySem.W.tabIn g.K "law").map (·.2) = some Pt := by rw [hT]; rfl
  have ec : cdv = .ref c := by
    unfold PySem.W.tabIn at hT
    rw [hn] at hT
    simp only [lk] at hT
    cases cdv with
    | ref c' =>
      simp only [PySem.W.fnOf] at hT
      split at hT
      · split at hT
        · cases hT; rfl
        · cases hT
      · cases hT
    | _ => simp only [PySem.W.fnOf] at hT; cases hT
  subst ec
  refine fn_of lk hcd S (fun vs H Q E h => ?_) (fun A outer s H vs Q E hr h => ?_)
  · obtain ⟨a, ns, rfl, _⟩ := h; rfl
  · obtain ⟨t, ht, sim⟩ := hb A outer s H E hr
    refine ⟨t, ht.nox, ?_⟩
    obtain ⟨a, ns, rfl, q, hl, hP, fin⟩ := h
    obtain ⟨h1, e⟩ := ref ns hl
    have R0 : Rel g.K H [Pt] [Pt] [Ob.tb] H := ⟨rfl, by simp, fun n o z => by
      match n, z with
      | 0, z =>
        cases z
        exact ⟨Pt, rfl, hTP, LamX.TabS.nil hP⟩, fun a o z _ => z, fun a z => .inr z, fun a z => z⟩
    have q0 : VRs g.K [Pt] H [D.scr ns] [.ref a] := .one (by
      unfold VR
      refine ⟨a, rfl, ?_⟩
      rcases q with q | q
      · refine .inl ⟨q, fun z => ?_⟩
        have : a = Pt := by simpa using z
        subst this
        rcases q with q | ⟨o, q⟩ <;> (rw [hP] at q; cases q)
      · exact .inr (.inr q))
    have E0 := env_start (N := N) q0 hps
    refine sim H [Pt] [Pt] [Ob.tb] H _ (L2.start N _) _ R0 E0 ?_
    rw [show ([D.scr ns].length) = 1 from rfl, e]
    intro ι' H' R' S' v qv
    have e2 : v = .bl true := qv
    rw [e2]
    exact fin H'
/-! ### the frame of such a law: its table, the cells, the bag -/
abbrev BT (cs : List Int) (b : Bn) (rest : Hs) : Hs := Ob.tb :: .lst (cs.map D.int) :: bagO b 1 :: rest
theorem callB_evT {F : List D → List Int → Bn → RB} {fa : FA} {env : En} {cs : List Int} {b b' : Bn} {rest rest' : Hs} {r ds : List D} {d : D} (h1 : fa env (BT cs b rest) = .ok (.ref 2 :: r) (BT cs b rest')) (h2 : dall (dcl (Ob.tb :: hid :: hid :: rest')) r = some ds)
    (h3 : F ds cs b = .val d b') : fCallB F fa env (BT cs b rest) = .ok d (BT cs b' rest') := by
  have hr : rdB 2 (BT cs b rest') = some (b, 1, cs) := by simp [rdB, bagO]
  unfold fCallB
  rw [h1]
  simp only [bnd_ok]
  rw [hr]
  simp only []
  rw [if_pos (by decide)]
  have hm : mask (BT cs b rest') 2 1 = Ob.tb :: hid :: hid :: rest' := rfl
  rw [hm, h2]
  simp only []
  rw [h3]
  simp only [setB, BT, List.set_cons_succ, List.set_cons_zero]
theorem callB_objT {F : List D → List Int → Bn → RB} {fa : FA} {env : En} {cs : List Int} {b b' : Bn} {rest rest' : Hs} {r ds : List D} {o : Ob} (h1 : fa env (BT cs b rest) = .ok (.ref 2 :: r) (BT cs b rest')) (h2 : dall (dcl (Ob.tb :: hid :: hid :: rest')) r = some ds)
    (h3 : F ds cs b = .obj o b') : fCallB F fa env (BT cs b rest) = .ok (.ref (rest'.length + 3)) (BT cs b' (rest' ++ [o])) := by
  have hr : rdB 2 (BT cs b rest') = some (b, 1, cs) := by simp [rdB, bagO]
  unfold fCallB
  rw [h1]
  simp only [bnd_ok]
  rw [hr]
  simp only []
  rw [if_pos (by decide)]
  have hm : mask (BT cs b rest') 2 1 = Ob.tb :: hid :: hid :: rest' := rfl
  rw [hm, h2]
  simp only []
  rw [h3]
  simp only [setB, BT, List.set_cons_succ, List.set_cons_zero, List.length_cons, List.cons_append]
theorem all_BT (n : Nat) (hn : 3 ≤ n) (cs : List Int) (b : Bn) (rest : Hs) (h : rest.all (belO n) = true) : (BT cs b rest).all (belO n) = true := by
  have e1 : belO n (.lst (cs.map D.int)) = true := bels_int n cs
  have e2 : belO n (bagO b 1) = true := by simp [bagO, belO, bels, bel]; omega
  have e3 : belO n Ob.tb = true := rfl
  simp only [BT, List.all_cons, e1, e2, e3, h, Bool.and_self]
theorem frm_BT (cs : List Int) : Frm 3 (BT cs) := ⟨fun _ _ _ => rfl, fun _ _ => rfl, fun n b r hn h => all_BT n hn cs b r h⟩
theorem BT_wf {cs : List Int} {b : Bn} {r : Hs} (h : r.all obNor = true) : WF (BT cs b r) := (frm_BT cs).wf h
theorem drawT {F : List D → List Int → Bn → RB} (hF : ∀ many, 1 ≤ many → many < 1073741824 → ∀ cs b, List.length cs ≤ 63 → ∃ v b', F [.int many] cs b = .val (.int v) b' ∧ 0 ≤ v ∧ v < many) {cs : List Int} (hc : cs.length ≤ 63) (m : Nat) (h1 : 1 ≤ m) (h2 : m < 1073741824) (env : En) (he : env[1]? = some (some (.ref 2))) (b : Bn) (R : Hs) :
    ∃ (v : Nat) (b' : Bn), v < m ∧ fCallB F (fCons (fVar 1) (fCons (fC (.int m)) fNil)) env (BT cs b R) = .ok (.int v) (BT cs b' R) := by
  obtain ⟨v, b', e, v0, v1⟩ := hF m (by omega) (by omega) cs b hc
  obtain ⟨k, rfl⟩ := Int.eq_ofNat_of_zero_le v0
  refine ⟨k, b', by omega, ?_⟩
  exact callB_evT (ds := [.int m]) (r := [.int m]) (by simp only [fCons, fVar, he, bnd_ok, fC, fNil]) (dall_nor _ _ rfl) e
end PF
namespace PF
open PySem PySem.Spec PyProof.Rows L2
/-! ### the clauses as gen.py prints them -/
def tTryAs (K : PySem.W.Frag) (C : Addr) (i : Nat) (t : Addr → Value → Option Addr → TA) (W : Wx) (tb : Wx → TS) : TS := fun Z σ H => tb (wAs K (.ref C) i (fun a cls d => tRet (tTup (t a cls d))) W Z) Z σ H
theorem kTryAs {X : Cx} {x n : Str} {C : Addr} {i : Nat} {body suite : List Stmt} {b₀ : Stmt} {np pos pos' : Pos} {tb : WX → TS} {t : Addr → Value → Option Addr → TA} {Wout : WX} (hs : X.stack = X.env :: X.outer) (hf : X.env.frame = some X.env.locals) (hN : X.N.Nodup) (hi : X.N[i]? = some n) (hln : X.env.kindOf n = some .local) (hc : Names X x (.ref C)) (tk : Takes X Wout)
    (hb : ∀ (W : WX) (pn : List (Addr × Obj)) (xe : Value → Shared → Prop), Takes (X.tr pn xe) W → PassesOwn (model X.prog X.w) X.A X.env xe → PSs (X.tr pn xe) body (tb W))
    (hsu : ∀ (a : Addr) (oe : Obj) (cls : Value) (d : Option Addr) (pn : List (Addr × Obj)), Zc cls d oe → (∃ vs, oe.data = .fields vs) → PSs (X.suite a ((a, oe) :: pn)) (b₀ :: suite) (tRet (tTup (t a cls d)))) :
    PS X (.Try body [.ExceptHandler (some (.Name x np)) (some n) (b₀ :: suite) pos'] [] [] pos) (tTryAs X.K C i t Wout tb) := ps_try_as (ts := fun a cls d => tRet (tTup (t a cls d))) hs hf hN hi hln hc tk hb hsu
section
variable {g : G} {W : Wx} {CL : List (List Nat × Addr)} {C : Addr} {ta : TA} {fa : FA} {i : Nat} {t : Addr → Value → Option Addr → TA} {its : List XIt} {c : List Nat} {fb : FS}
theorem sim_raiseS {flS : List Str} {fl : List (List Nat)} (hE : g.er = erR g.K CL) (hC : CL.lookup c = some C) (ha : SimA g W ta fa) (e : flS = fl.map mk := by decide +kernel) : SimS g W (tRz C (SpI g.K C flS) W ta) (fRaise c fl fa) := by
  subst e
  exact sim_raise hE hC ha
theorem sim_try {tb : Wx → TS} (hE : g.er = erR g.K CL) (hX : ∀ c' C', CL.lookup c' = some C' → PySem.W.exmOne g.K (.ref C') (.ref C) = some (decide (c' = c))) (hc : CL.lookup c = some C) (hb : ∀ W', SimS g W' (tb W') fb) (hs : SimXA g C i t its) :
    SimS g W (tTryAs g.K C i t W tb) (fTryAs i c fb its) := sim_tryAs hE hX hc hb hs
end
/-! ### index of a text in a tuple of texts -/
def sts : List D → Option (List (List Nat))
  | [] => some []
  | .str s :: r => match sts r with
    | some l => some (s :: l)
    | none => none
  | _ :: _ => none
theorem sts_map : ∀ l : List (List Nat), sts (l.map D.str) = some l
  | [] => rfl
  | s :: r => by
    rw [List.map_cons]
    unfold sts
    rw [sts_map r]
theorem sts_eq : ∀ {ds : List D} {l : List (List Nat)}, sts ds = some l → ds = l.map D.str
  | [], l, h => by cases h; rfl
  | d :: r, l, h => by
    cases d with
    | str s =>
      unfold sts at h
      cases e : sts r with
      | none => rw [e] at h; cases h
      | some l' =>
        rw [e] at h
        cases h
        rw [sts_eq e]; rfl
    | _ => cases h
theorem VRs.sts {K : PySem.W.Frag} {ι : List Addr} {H : Hp} : ∀ {l : List (List Nat)} {vs : List V}, VRs K ι H (l.map D.str) vs → vs = (l.map mk).map V.str
  | [], vs, h => VRs.nil_iff.mp h
  | s :: r, vs, h => by
    rw [List.map_cons] at h
    obtain ⟨v, r', rfl, h1, q⟩ := VRs.cons_iff.mp h
    unfold VR at h1
    rw [h1.1, VRs.sts q]; rfl
def indexD : D → List D → Hs → R D := fun x xs h => match x, xs with
  | .tup ds, [.str s] => match PF.sts ds with
    | some l => if l.idxOf s < l.length then .ok (.int (l.idxOf s : Nat)) h else .no
    | none => .no
  | _, _ => .no
def rIndexT (K : PySem.W.Frag) : V → List V → Hp → VK → Prop := fun x xs H Q => ∃ p, ∃ ys : List Str, ∃ z j, x = .ref p ∧ xs = [.str z] ∧ SqT K H p (ys.map V.str) ∧ ys[j]? = some z ∧ (∀ m, m < j → ys[m]? ≠ some z) ∧ Q (.int (j : Nat)) H
theorem mt_indexT {X : Cx} : MtR X "tuple.index" (rIndexT X.K) := mt_tup_index
theorem mk_inj {a b : List Nat} (h : mk a = mk b) : a = b := congrArg (fun x : Str => x.cps.toList) h
theorem sim_indexT {g : G} : SimM g (rIndexT g.K) indexD := by
  intro H0 sp ι h H x xs vx vs W Q R qx qs w
  unfold indexD at w
  split at w
  · rename_i ds s
    cases hl : PF.sts ds with
    | none => rw [hl] at w; exact w.elim
    | some l =>
      rw [hl] at w
      simp only [] at w
      by_cases hc : l.idxOf s < l.length
      · rw [if_pos hc] at w
        have e := sts_eq hl
        subst e
        unfold VR at qx
        obtain ⟨a, us, rfl, hq, hv⟩ := qx
        rw [VRs.sts hv] at hq
        obtain ⟨v, r, rfl, h1, h2⟩ := VRs.cons_iff.mp qs
        have h2 := VRs.nil_iff.mp h2
        subst h2
        unfold VR at h1
        refine ⟨a, l.map mk, mk s, l.idxOf s, rfl, by rw [h1.1], SqT.of hq, ?_, fun m hm z => ?_, w.here R _ rfl⟩
        · rw [List.getElem?_map, List.getElem?_eq_getElem hc, List.getElem_idxOf hc]; rfl
        · rw [List.getElem?_map] at z
          have hm' : m < l.length := by omega
          rw [List.getElem?_eq_getElem hm'] at z
          have z2 : l[m] = s := mk_inj (Option.some.inj z)
          have := List.not_of_lt_findIdx (p := (· == s)) (xs := l) (i := m) hm
          simp [z2] at this
      · rw [if_neg hc] at w; exact w.elim
  · exact w.elim
end PF
namespace PF
open PySem PySem.Spec PyProof.Rows L2
section
variable {K : PySem.W.Frag} {C : Addr} {c : List Nat}
theorem ex_nil : ∀ c' C', (([] : List (List Nat × Addr))).lookup c' = some C' → PySem.W.exmOne K (.ref C') (.ref C) = some (decide (c' = c)) := fun c' C' h => by cases h
theorem ex_cons {c0 : List Nat} {C0 : Addr} {CL : List (List Nat × Addr)} (h0 : PySem.W.exmOne K (.ref C0) (.ref C) = some (decide (c0 = c))) (h : ∀ c' C', CL.lookup c' = some C' → PySem.W.exmOne K (.ref C') (.ref C) = some (decide (c' = c))) :
    ∀ c' C', ((c0, C0) :: CL).lookup c' = some C' → PySem.W.exmOne K (.ref C') (.ref C) = some (decide (c' = c)) := fun c' C' e => by
  by_cases q : (c' == c0) = true
  · simp only [List.lookup, q] at e
    cases e
    have q' : c' = c0 := by simpa using q
    rw [q']
    exact h0
  · have q : (c' == c0) = false := by simpa using q
    simp only [List.lookup, q] at e
    exact h c' C' e
end
section
variable {P : Program} {w : World} {K : PySem.W.Frag} {mg : Str → Option Value} {base : Heap} {CL : List (List Nat × Addr)} {nm : Str} {c : List Nat} {C fI cc cda D : Addr} {f f2 x x2 self qual file : Str} {tf : Tok}
  {params : Arguments} {scope : Scope} {dV kV doc pm ct oc ccl cl : Value} {an od cdd cld : Option Addr} {osl ccs csl : Array (Option Value)} {vs : Array Value} {ar : Arg} {cdD : ClassData}
  {nm0 q0 : Str} {N0 : Addr} {bs bm : List Value} {sn : List Str} {sub : List Value} {ab : Bool} {col : Option Bool} {dd : Option Addr} {k0 k1 k2 k3 k5 : Option Value}
theorem exf1 {p0 p1 p2 p3 p4 pa pb pc pd pe : Pos} (hK : K.In base)
    (e1 : mg nm = some (.ref C)) (e2 : K.lookup C = some (excClassObj nm0 q0 C N0 bs bm true sn sub ab col dd k0 k1 k2 k3 k5 "ValueError.__new__")) (e3 : PySem.HandSPX.refsVE bm = true)
    (e4 : PySem.W.findIn K (.ref C) "__setattr__" = some (some (.builtin "object.__setattr__"))) (e5 : PySem.W.subIn K (.ref C) (.type "BaseException") = some true) (e6 : PySem.W.typeIn K (.ref C) = some (.type "type")) (e7 : PySem.W.keepIn K (.ref C) = true)
    (e8 : PySem.W.findIn K (.ref C) "__init__" = some (some (.ref fI))) (e9 : PySem.W.typeIn K (.ref fI) = some (.type "function"))
    (e10 : K.lookup fI = some ⟨oc, od, .func (PySem.W.ksFn "__init__" qual params [.Expr (.Call (.Attribute (.Call (.Name "super" p0) [] [] p1) "__init__" p2) [.Name x pa] [] p3) p4, .Assign [.Attribute (.Name self pb) f pc] (.Name x pd) pe] scope dV kV doc pm an (.ref cda) ct cc), osl⟩)
    (e11 : PySem.W.codeIn K (.ref cda) qual = true) (e12 : K.lookup cda = some ⟨ccl, cdd, .fields vs, ccs⟩) (e13 : vs[2]? = some (.str file tf)) (e14 : ((P.main.file : Str) == file) = true)
    (e15 : K.lookup cc = some ⟨cl, cld, .cell (some (.ref D)), csl⟩) (e16 : PySem.W.clsIn K D = some cdD) (e17 : PySem.W.mroIn K C (.ref D) = some true) (e18 : mg "super" = none) (e19 : (P.main.scope.names.lookup ("super" : Str)).isSome = false)
    (e20 : PySem.W.nsIn K cStatics "thirdparty.any" = some none) (e21 : PySem.W.ks_superIn K C D "__init__" = some (some (.builtin "ValueError.__init__"))) (e22 : PySem.W.subIn K (.ref C) (.type "ValueError") = some true)
    (e23 : PySem.W.findIn K (.ref C) f = some none) (e24 : PySem.W.findIn K (.ref C) "__getattribute__" = some (some (.builtin "BaseException.__getattribute__"))) (e25 : PySem.W.findIn K (.ref C) "__getattr__" = some none) (e26 : PySem.W.hasDictIn K C = true)
    (e27 : XI.ScI [self, x] scope) (e28 : (params.posonlyargs ++ params.args).head? = some ar) (e29 : ar.arg = self)
    (e30 : Binds K (PySem.W.ksFn "__init__" qual params [.Expr (.Call (.Attribute (.Call (.Name "super" p0) [] [] p1) "__init__" p2) [.Name x pa] [] p3) p4, .Assign [.Attribute (.Name self pb) f pc] (.Name x pd) pe] scope dV kV doc pm an (.ref cda) ct cc) [self, x] [])
    (e31 : XI.HMs p0 p1 p2 p3 [.Name x pa] qual scope fI cc cda) (e32 : (x == ("__debug__" : Str)) = false ∧ (x == ("__classdict__" : Str)) = false ∧ (self == ("__debug__" : Str)) = false ∧ (self == ("__classdict__" : Str)) = false)
    (e33 : CL.lookup c = some C) (e34 : ∀ c' C', CL.lookup c' = some C' → PySem.W.exmOne K (.ref C') (.ref C) = some (decide (c' = c))) : ExF P w K (erR K CL) mg base CL nm c [f] C := by
  have T : OexC K C := ⟨⟨_, _, _, _, _, _, _, _, _, _, _, _, _, _, _, e2, e3⟩, e4, e5, e6, e7⟩
  have SF : XI.SupF P K mg cda cc D C := ⟨⟨_, _, _, _, _, _, e12, e13, e14⟩, ⟨_, _, _, e15⟩, ⟨_, e16⟩, e17, e18, e19, e20, e21, e22⟩
  refine ⟨rfl, e33, e1, T, ⟨fI, _, [self, x], e8, e9, e30, ini1 hK T SF e23 e10 e11 e27 e28 e29 e31 e32.1 e32.2.1 e32.2.2.1 e32.2.2.2⟩, ⟨e24, e25, e5, e26⟩, fun g hg => ?_, e34⟩
  have : g = f := by simpa using hg
  rw [this]; exact e23
theorem exf2 {p0 p1 p2 p3 p4 pa pa2 pb pc pd pe pb2 pc2 pd2 pe2 : Pos} (hK : K.In base)
    (e1 : mg nm = some (.ref C)) (e2 : K.lookup C = some (excClassObj nm0 q0 C N0 bs bm true sn sub ab col dd k0 k1 k2 k3 k5 "ValueError.__new__")) (e3 : PySem.HandSPX.refsVE bm = true)
    (e4 : PySem.W.findIn K (.ref C) "__setattr__" = some (some (.builtin "object.__setattr__"))) (e5 : PySem.W.subIn K (.ref C) (.type "BaseException") = some true) (e6 : PySem.W.typeIn K (.ref C) = some (.type "type")) (e7 : PySem.W.keepIn K (.ref C) = true)
    (e8 : PySem.W.findIn K (.ref C) "__init__" = some (some (.ref fI))) (e9 : PySem.W.typeIn K (.ref fI) = some (.type "function"))
    (e10 : K.lookup fI = some ⟨oc, od, .func (PySem.W.ksFn "__init__" qual params [.Expr (.Call (.Attribute (.Call (.Name "super" p0) [] [] p1) "__init__" p2) [.Name x pa, .Name x2 pa2] [] p3) p4, .Assign [.Attribute (.Name self pb) f pc] (.Name x pd) pe, .Assign [.Attribute (.Name self pb2) f2 pc2] (.Name x2 pd2) pe2] scope dV kV doc pm an (.ref cda) ct cc), osl⟩)
    (e11 : PySem.W.codeIn K (.ref cda) qual = true) (e12 : K.lookup cda = some ⟨ccl, cdd, .fields vs, ccs⟩) (e13 : vs[2]? = some (.str file tf)) (e14 : ((P.main.file : Str) == file) = true)
    (e15 : K.lookup cc = some ⟨cl, cld, .cell (some (.ref D)), csl⟩) (e16 : PySem.W.clsIn K D = some cdD) (e17 : PySem.W.mroIn K C (.ref D) = some true) (e18 : mg "super" = none) (e19 : (P.main.scope.names.lookup ("super" : Str)).isSome = false)
    (e20 : PySem.W.nsIn K cStatics "thirdparty.any" = some none) (e21 : PySem.W.ks_superIn K C D "__init__" = some (some (.builtin "ValueError.__init__"))) (e22 : PySem.W.subIn K (.ref C) (.type "ValueError") = some true)
    (e23 : PySem.W.findIn K (.ref C) f = some none) (e23b : PySem.W.findIn K (.ref C) f2 = some none) (e24 : PySem.W.findIn K (.ref C) "__getattribute__" = some (some (.builtin "BaseException.__getattribute__"))) (e25 : PySem.W.findIn K (.ref C) "__getattr__" = some none) (e26 : PySem.W.hasDictIn K C = true)
    (e27 : XI.ScI [self, x, x2] scope) (e28 : (params.posonlyargs ++ params.args).head? = some ar) (e29 : ar.arg = self)
    (e30 : Binds K (PySem.W.ksFn "__init__" qual params [.Expr (.Call (.Attribute (.Call (.Name "super" p0) [] [] p1) "__init__" p2) [.Name x pa, .Name x2 pa2] [] p3) p4, .Assign [.Attribute (.Name self pb) f pc] (.Name x pd) pe, .Assign [.Attribute (.Name self pb2) f2 pc2] (.Name x2 pd2) pe2] scope dV kV doc pm an (.ref cda) ct cc) [self, x, x2] [])
    (e31 : XI.HMs p0 p1 p2 p3 [.Name x pa, .Name x2 pa2] qual scope fI cc cda) (e32 : (x == ("__debug__" : Str)) = false ∧ (x == ("__classdict__" : Str)) = false ∧ (self == ("__debug__" : Str)) = false ∧ (self == ("__classdict__" : Str)) = false) (e32b : (x2 == ("__debug__" : Str)) = false ∧ (x2 == ("__classdict__" : Str)) = false) (e32c : (f == f2) = false)
    (e33 : CL.lookup c = some C) (e34 : ∀ c' C', CL.lookup c' = some C' → PySem.W.exmOne K (.ref C') (.ref C) = some (decide (c' = c))) : ExF P w K (erR K CL) mg base CL nm c [f, f2] C := by
  have T : OexC K C := ⟨⟨_, _, _, _, _, _, _, _, _, _, _, _, _, _, _, e2, e3⟩, e4, e5, e6, e7⟩
  have SF : XI.SupF P K mg cda cc D C := ⟨⟨_, _, _, _, _, _, e12, e13, e14⟩, ⟨_, _, _, e15⟩, ⟨_, e16⟩, e17, e18, e19, e20, e21, e22⟩
  refine ⟨rfl, e33, e1, T, ⟨fI, _, [self, x, x2], e8, e9, e30, ini2 hK T SF e23 e23b e32c e10 e11 e27 e28 e29 e31 e32.1 e32.2.1 e32b.1 e32b.2 e32.2.2.1 e32.2.2.2⟩, ⟨e24, e25, e5, e26⟩, fun g hg => ?_, e34⟩
  have : g = f ∨ g = f2 := by simpa using hg
  rcases this with h | h
  · rw [h]; exact e23
  · rw [h]; exact e23b
end
end PF
namespace PF
open PySem PySem.Spec PyProof.Rows L2
/-! ### dicts whose keys are tuples of ints and texts -/
def keysL : List D → Option (List Key)
  | [] => some []
  | d :: r => match keyOf d, keysL r with
    | some k, some l => some (k :: l)
    | _, _ => none
section
variable {K : PySem.W.Frag} {H0 : Hp} {sp ι : List Addr} {h : Hs} {H : Hp}
theorem keysL_ok : ∀ {ds : List D} {vs : List V} {ks : List Key}, VRs K ι H ds vs → keysL ds = some ks → vs = ks.map kV
  | [], vs, ks, q, e => by cases e; exact VRs.nil_iff.mp q
  | d :: r, vs, ks, q, e => by
    obtain ⟨v, t, rfl, h1, h2⟩ := VRs.cons_iff.mp q
    unfold keysL at e
    cases e1 : keyOf d with
    | none => rw [e1] at e; cases e
    | some k =>
      cases e2 : keysL r with
      | none => rw [e1, e2] at e; cases e
      | some l =>
        rw [e1, e2] at e
        cases e
        rw [keyV h1 e1, keysL_ok h2 e2]; rfl
def getT (kvs : List (List Key × D)) (k : List Key) : Option D := (kvs.find? fun p => decide (p.1 = k)).map Prod.snd
def putT (kvs : List (List Key × D)) (k : List Key) (d : D) : List (List Key × D) := if (kvs.any fun p => decide (p.1 = k)) = true then kvs.map (fun p => if p.1 = k then (p.1, d) else p) else kvs ++ [(k, d)]
def TVR (K : PySem.W.Frag) (ι : List Addr) (H : Hp) (kvs : List (List Key × D)) (us : List (List Key × V)) : Prop := kvs.map Prod.fst = us.map Prod.fst ∧ VRs K ι H (kvs.map Prod.snd) (us.map Prod.snd)
theorem TVR.cons_iff {p : List Key × D} {kvs : List (List Key × D)} {us : List (List Key × V)} : TVR K ι H (p :: kvs) us ↔ ∃ q r, us = q :: r ∧ p.1 = q.1 ∧ VR K ι H p.2 q.2 ∧ TVR K ι H kvs r := by
  constructor
  · rintro ⟨h1, h2⟩
    cases us with
    | nil => simp at h1
    | cons q r =>
      rw [List.map_cons, List.map_cons, List.cons.injEq] at h1
      rw [List.map_cons, List.map_cons] at h2
      obtain ⟨v, t, e1, a1, a2⟩ := VRs.cons_iff.mp h2
      cases e1
      exact ⟨q, r, rfl, h1.1, a1, h1.2, a2⟩
  · rintro ⟨q, r, rfl, h1, h2, k1, k2⟩
    exact ⟨by rw [List.map_cons, List.map_cons, h1, k1], .cons h2 k2⟩
theorem TVR.nil_iff {us : List (List Key × V)} : TVR K ι H [] us ↔ us = [] := by
  constructor
  · intro q
    have := congrArg List.length q.1
    exact List.eq_nil_of_length_eq_zero (by simpa using this.symm)
  · rintro rfl
    exact ⟨rfl, rfl⟩
theorem TVR.length {kvs : List (List Key × D)} {us : List (List Key × V)} (q : TVR K ι H kvs us) : kvs.length = us.length := by
  have := congrArg List.length q.1
  simpa using this
theorem TVR.get {k : List Key} : ∀ {kvs : List (List Key × D)} {us : List (List Key × V)}, TVR K ι H kvs us → (∀ v, getT kvs k = some v → ∃ v', valV us k = some v' ∧ VR K ι H v v') ∧ (getT kvs k = none → valV us k = none)
  | [], us, q => by
    rw [TVR.nil_iff.mp q]
    exact ⟨fun v e => (by cases e), fun _ => rfl⟩
  | p :: kvs, us, q => by
    obtain ⟨r, us', rfl, h1, h2, q'⟩ := TVR.cons_iff.mp q
    obtain ⟨i1, i2⟩ := TVR.get (k := k) q'
    by_cases c : p.1 = k
    · refine ⟨fun v z => ?_, fun z => ?_⟩
      · unfold getT at z
        rw [List.find?_cons, decide_eq_true c] at z
        cases z
        exact ⟨r.2, valV_pos (h1 ▸ c), h2⟩
      · unfold getT at z
        rw [List.find?_cons, decide_eq_true c] at z
        cases z
    · have g : getT (p :: kvs) k = getT kvs k := by
        unfold getT
        rw [List.find?_cons, decide_eq_false c]
      rw [g, valV_neg (h1 ▸ c)]
      exact ⟨i1, i2⟩
theorem TVR.app {kvs : List (List Key × D)} {us : List (List Key × V)} {k : List Key} {d : D} {v : V} (q : TVR K ι H kvs us) (h : VR K ι H d v) : TVR K ι H (kvs ++ [(k, d)]) (us ++ [(k, v)]) := by
  obtain ⟨k1, k2⟩ := q
  refine ⟨by simp [k1], ?_⟩
  simp only [List.map_append, List.map_cons, List.map_nil]
  exact k2.app (.one h)
theorem TVR.map {k : List Key} {d : D} {v : V} (hv : VR K ι H d v) : ∀ {kvs : List (List Key × D)} {us : List (List Key × V)}, TVR K ι H kvs us → TVR K ι H (kvs.map fun p => if p.1 = k then (p.1, d) else p) (us.map fun kv => if kv.1 = k then (kv.1, v) else kv)
  | [], us, q => by rw [TVR.nil_iff.mp q]; exact ⟨rfl, rfl⟩
  | p :: kvs, us, q => by
    obtain ⟨r, us', rfl, h1, h2, q'⟩ := TVR.cons_iff.mp q
    rw [List.map_cons, List.map_cons]
    by_cases c : p.1 = k
    · rw [if_pos c, if_pos (h1 ▸ c)]
      exact TVR.cons_iff.mpr ⟨_, _, rfl, h1, hv, TVR.map hv q'⟩
    · rw [if_neg c, if_neg (h1 ▸ c)]
      exact TVR.cons_iff.mpr ⟨_, _, rfl, h1, h2, TVR.map hv q'⟩
theorem TVR.any {k : List Key} : ∀ {kvs : List (List Key × D)} {us : List (List Key × V)}, TVR K ι H kvs us → (kvs.any fun p => decide (p.1 = k)) = (us.any fun kv => decide (kv.1 = k))
  | [], us, q => by rw [TVR.nil_iff.mp q]; rfl
  | p :: kvs, us, q => by
    obtain ⟨r, us', rfl, h1, h2, q'⟩ := TVR.cons_iff.mp q
    rw [List.any_cons, List.any_cons, TVR.any q', h1]
theorem TVR.put {k : List Key} {d : D} {v : V} {kvs : List (List Key × D)} {us : List (List Key × V)} (q : TVR K ι H kvs us) (hv : VR K ι H d v) : TVR K ι H (putT kvs k d) (putK us k v) := by
  unfold putT putK
  rw [q.any]
  split
  · exact q.map hv
  · exact q.app hv
theorem TVR.mono {ι' : List Addr} {H' : Hp} {kvs : List (List Key × D)} {us : List (List Key × V)} (s : Stp ι H ι' H') (q : TVR K ι H kvs us) : TVR K ι' H' kvs us := ⟨q.1, VRs.mono s _ _ q.2⟩
def tof (h : Hs) : D → Option (Nat × List (List Key × D))
  | .ref n => match h[n]? with
    | some (.dtt kvs) => some (n, kvs)
    | _ => none
  | _ => none
theorem tof_ok (R : Rel K H0 sp ι h H) {d : D} {v : V} {n : Nat} {kvs : List (List Key × D)} (q : VR K ι H d v) (e : tof h d = some (n, kvs)) : ∃ a us, v = .ref a ∧ ι[n]? = some a ∧ H a = some (.dT us) ∧ TVR K ι H kvs us := by
  cases d with
  | ref m =>
    unfold VR at q
    obtain ⟨a, rfl, e2⟩ := q
    unfold tof at e
    cases hn : h[m]? with
    | none => simp only [hn] at e; cases e
    | some o =>
      cases o with
      | dtt kvs' =>
        simp only [hn] at e
        cases e
        obtain ⟨b, e3, us, e4, e5, e6⟩ := R.ob n _ hn
        rw [e2] at e3
        cases e3
        exact ⟨a, us, rfl, e2, e4, e5, e6⟩
      | _ => simp only [hn] at e; cases e
  | _ => cases e
end
section
variable {g : G} {W : Wx}
/-! ### d[k], k in d -/
def ixT (x y : D) (h : Hs) : R D := match tof h x with
  | some (_, kvs) => match y with
    | .tup ds => match keysL ds with
      | some ks => match getT kvs ks with
        | some v => .ok v h
        | none => .no
      | none => .no
    | _ => .no
  | none => ixA x y h
theorem sim_ixT : SimR2 g (uIx g.K) ixT := by
  intro H0 sp ι h H x y vx vy W Q R qx qy w
  unfold ixT at w
  split at w
  · rename_i n kvs e1
    split at w
    · rename_i ds
      split at w
      · rename_i ks ek
        split at w
        · rename_i v ev
          obtain ⟨a, us, rfl, hn, p, r⟩ := tof_ok R qx e1
          obtain ⟨b, vs, rfl, hb, hv⟩ := qy.tupX
          rw [keysL_ok hv ek] at hb
          obtain ⟨v', h1, h2⟩ := (r.get (k := ks)).1 v ev
          exact .inr ⟨a, v', rfl, by rw [← h1]; exact DGet.t p hb, w.here R v' h2⟩
        · exact w.elim
      · exact w.elim
    · exact w.elim
  · exact sim_ixA H0 sp ι h H x y vx vy W Q R qx qy w
def inT (x y : D) (h : Hs) : R D := match tof h y with
  | some (_, kvs) => match x with
    | .tup ds => match keysL ds with
      | some ks => .ok (.bl (getT kvs ks).isSome) h
      | none => .no
    | _ => .no
  | none => inA x y h
theorem sim_inT : SimR2 g (uInA g.K) inT := by
  intro H0 sp ι h H x y vx vy W Q R qx qy w
  unfold inT at w
  split at w
  · rename_i n kvs e1
    split at w
    · rename_i ds
      split at w
      · rename_i ks ek
        obtain ⟨a, us, rfl, hn, p, r⟩ := tof_ok R qy e1
        obtain ⟨b, vs, rfl, hb, hv⟩ := qx.tupX
        rw [keysL_ok hv ek] at hb
        refine .inr ⟨a, valV us ks, rfl, DGet.t p hb, ?_⟩
        have e : (valV us ks).isSome = (getT kvs ks).isSome := by
          obtain ⟨i1, i2⟩ := r.get (k := ks)
          cases hg : getT kvs ks with
          | none => rw [i2 hg]; rfl
          | some v =>
            obtain ⟨v', h1, _⟩ := i1 v hg
            rw [h1]; rfl
        rw [if_neg Bool.false_ne_true, e]
        exact w.here R _ rfl
      · exact w.elim
    · exact w.elim
  · exact sim_inA H0 sp ι h H x y vx vy W Q R qx qy w
/-! ### {} , x[k] = v -/
def fDT : FE := fun _ h => .ok (.ref h.length) (h ++ [.dtt []])
theorem sim_dT : SimE g W tDNewT fDT := by
  intro H0 sp ι h H env σ Q R E w p hp
  have x := R.add (ho := .dT []) (o := .dtt []) hp fun s => ⟨[], upd_same, rfl, rfl⟩
  refine w.at x _ ?_
  unfold VR
  exact ⟨p, rfl, by rw [← R.len]; simp⟩
def gST (fo fi : FE) : FG := fun d env h => (fo env h).bnd fun x h1 => (fi env h1).bnd fun y h2 => match tof h2 x with
  | some (n, kvs) => match y with
    | .tup ds => match keysL ds with
      | some ks => if kvs.length < 16777216 then .ok env (h2.set n (.dtt (putT kvs ks d))) else .no
      | none => .no
    | _ => .no
  | none => .no
theorem sim_gsubT {to ti : TE} {fo fi : FE} (ho : SimE g W to fo) (hi : SimE g W ti fi) : SimG g W (gSub to ti uSet) (gST fo fi) := by
  intro H0 sp ι h H env σ d v Q R E q w
  refine ho H0 sp ι h H env σ _ R E (WP.bnd w fun x h1 ι1 H1 R1 S1 w1 v1 q1 => ?_)
  refine hi H0 sp ι1 h1 H1 env σ _ R1 (E.mono S1) (WP.bnd w1 fun y h2 ι2 H2 R2 S2 w2 v2 q2 => ?_)
  split at w2
  · rename_i n kvs e1
    split at w2
    · rename_i ds
      split at w2
      · rename_i ks ek
        obtain ⟨hl, w2⟩ := ifN w2
        obtain ⟨a, us, rfl, hn, p, r⟩ := tof_ok R2 (VR.mono S2 _ _ q1) e1
        obtain ⟨b, vs, rfl, hb, hv⟩ := q2.tupX
        rw [keysL_ok hv ek] at hb
        have hvd := VR.mono (S1.trans S2) _ _ q
        refine .inr ⟨a, _, rfl, DPut.t p hb (by rw [← r.length, sizeLine_eq]; omega), ?_⟩
        have x := R2.put (ho := .dT (putK us ks v)) (o := .dtt (putT kvs ks d)) hn fun s => ⟨_, upd_same, (r.put hvd).1, VRs.mono s _ _ (r.put hvd).2⟩
        exact w2.at x σ ((E.mono (S1.trans S2)).mono x.2)
      · exact w2.elim
    · exact w2.elim
  · exact w2.elim
end
/-! ### str(i) -/
def strL (i : Int) : List Nat := (Str.ofString (toString i)).cps.toList
def strD : List D → Hs → R D
  | [.int i], h => if i.natAbs.log2 < 1920 ∧ (strL i).length ≤ 16777216 ∧ (strL i).all (fun c => decide (c < 1114112)) = true then .ok (.str (strL i)) h else .no
  | _, _ => .no
theorem sim_str1 {g : G} : SimC g (fun xs H Q => ∃ i, xs = [.int i] ∧ i.natAbs.log2 < 1920 ∧ Q (.str (toString i)) H) strD := by
  intro H0 sp ι h H xs vs W Q R q w
  unfold strD at w
  split at w
  · obtain ⟨hc, w⟩ := ifN w
    obtain ⟨v, rfl, q1⟩ := q.oneE
    have e : v = .int _ := q1
    subst e
    refine ⟨_, rfl, hc.1, w.here R _ ?_⟩
    unfold VR
    refine ⟨rfl, hc.2.1, fun c m => ?_⟩
    have := List.all_eq_true.mp hc.2.2 c m
    simpa using this
  · exact w.elim
end PF
namespace PF
open PySem PySem.Spec PyProof.Rows L2
/-! ### *e in displays and calls -/
def fStar (fe : FE) (fa : FA) : FA := fun env h => (fe env h).bnd fun x h1 => match sqof h1 x with
  | some ds => (fa env h1).bnd fun ys h2 => .ok (ds ++ ys) h2
  | none => .no
theorem sim_star {g : G} {W : Wx} {te : TE} {ta : TA} {fe : FE} {fa : FA} (he : SimE g W te fe) (ha : SimA g W ta fa) : SimA g W (StX.tStar g.K te ta) (fStar fe fa) := by
  intro H0 sp ι h H env σ Q R E w
  refine he H0 sp ι h H env σ _ R E (WP.bnd w fun x h1 ι1 H1 R1 S1 w1 v1 q1 => ?_)
  cases e : sqof h1 x with
  | none => rw [e] at w1; exact w1.elim
  | some ds =>
    rw [e] at w1
    obtain ⟨a, vs, rfl, p, r⟩ := sqof_ok R1 q1 e
    refine ⟨a, vs, rfl, p.symm, ?_⟩
    refine ha H0 sp ι1 h1 H1 env σ _ R1 (E.mono S1) (WP.bnd w1 fun ys h2 ι2 H2 R2 S2 w2 us q2 => ?_)
    exact w2.here R2 (vs ++ us) ((VRs.mono S2 _ _ r).app q2)
theorem kStar {X : Cx} (K) {e : Expr} {es : List Expr} {te : TE} {t : TA} {p : Pos} (he : PE X e te) (hr : PA X es t) (hs : starEach (.Starred e p :: es) X.env = (true, eval e X.env) :: starEach es X.env := by rfl) (h : X.K = K := by rfl) : PA X (.Starred e p :: es) (StX.tStar K te t) := h ▸ StX.pa_star he hr hs
/-! ### a def that calls itself: by the depth -/
theorem def_okR {P : Program} {w : World} {g : G} {mg : Str → Option Value} {base : Heap} {x qual : Str} {st : Stmt} {f : Addr} {fd : FuncData} {N ps : List Str} {k : Nat} {fs : (List D → RP) → FS} {F : Nat → List D → RP} (FF : Fun g.K x qual st f fd) (S : FnScope N ps (defScope st)) (h0 : ∀ ds, F 0 ds = .no)
    (hb : ∀ n : Nat, FnOk P w g.K mg base CX0 (k + n) f fd ps (SpP g (F n)) → ∀ (cdv : Value) (A : Around) (outer : List Env) (s : Shared) (H : Hp) (E : XK), Room (k + n) (A.deeper (envOfC qual (defScope st) s.heap.objs.size f cdv)) → ∃ t, PSs (cxOf CX0 P w g.K mg base N qual (defScope st) f cdv A outer s H E).nox (defBody st) t ∧ SimS g W0 t (fs (F n)))
    (ref : ∀ n ds, F (n + 1) ds ≠ .no → (runP ps.length N.length (fs (F n)) ds = F (n + 1) ds ∧ ∀ e, F (n + 1) ds ≠ .er e)) : ∀ n : Nat, FnOk P w g.K mg base CX0 (k + n) f fd ps (SpP g (F n))
  | 0 => ⟨fun vs H Q E h => by
      obtain ⟨ds, q, m⟩ := h
      rw [h0] at m
      exact m.elim, fun A outer s H args us vs Q E hr e0 hb' r h => by
      obtain ⟨ds, q, m⟩ := h
      rw [h0] at m
      exact m.elim⟩
  | n + 1 => def_ok (fs := fs (F n)) FF S (hb n (def_okR FF S h0 hb ref n)) (ref n)
end PF
/-! ### a calculus over the readings: what holds of the value and the heap -/
namespace PF
open PySem PySem.Spec PyProof.Rows L2
class Go (G : Prop) (P : outParam Prop) : Prop where
  imp : P → G
theorem go {G P : Prop} [i : Go G P] (p : P) : G := i.imp p
def wp {α : Type} (r : R α) (Q : α → Hs → Prop) : Prop := ∃ a h, r = .ok a h ∧ Q a h
section
variable {α β : Type}
theorem wp_eq {r : R α} {a : α} {h : Hs} {Q : α → Hs → Prop} (e : r = .ok a h) (q : Q a h) : wp r Q := ⟨a, h, e, q⟩
theorem wp_ret {a : α} {h : Hs} {Q : α → Hs → Prop} (q : Q a h) : wp (.ok a h) Q := ⟨a, h, rfl, q⟩
theorem wp_bnd {r : R α} {f : α → Hs → R β} {Q : β → Hs → Prop} (w : wp r fun a h => wp (f a h) Q) : wp (r.bnd f) Q := by
  obtain ⟨a, h, e, b, h', e', q⟩ := w
  exact ⟨b, h', by rw [e]; exact e', q⟩
theorem wp_mono {r : R α} {P Q : α → Hs → Prop} (w : wp r P) (i : ∀ a h, P a h → Q a h) : wp r Q := by
  obtain ⟨a, h, e, q⟩ := w
  exact ⟨a, h, e, i a h q⟩
end
def cnd (t : Bool) (A B : Prop) : Prop := (t = true → A) ∧ (t = false → B)
instance cnd_t {A B : Prop} : Go (cnd true A B) A := ⟨fun a => And.intro (fun _ => a) (fun z => by cases z)⟩
instance cnd_f {A B : Prop} : Go (cnd false A B) B := ⟨fun a => And.intro (fun z => by cases z) (fun _ => a)⟩
theorem cnd_it {t : Bool} {A B : Prop} (e : t = true) (a : A) : cnd t A B := ⟨fun _ => a, fun z => by rw [e] at z; cases z⟩
theorem cnd_if {t : Bool} {A B : Prop} (e : t = false) (a : B) : cnd t A B := ⟨fun z => (by rw [e] at z; cases z), fun _ => a⟩
theorem wp_ite {α : Type} {b : Bool} {x y : R α} {Q : α → Hs → Prop} (w : cnd b (wp x Q) (wp y Q)) : wp (if b = true then x else y) Q := by
  cases b with
  | true => exact w.1 rfl
  | false => exact w.2 rfl
theorem wp_if {α : Type} {c : Prop} [Decidable c] {x : R α} {Q : α → Hs → Prop} (hc : c) (w : wp x Q) : wp (if c then x else .no) Q := by rw [if_pos hc]; exact w
section
variable {env : En} {h : Hs} {Q : D → Hs → Prop} {QB : Bool → Hs → Prop} {QA : List D → Hs → Prop} {fe fa fb : FE} {ft fu : FT} {fr : FA} {fo fp : FO}
instance w_c {d : D} : Go (wp (fC d env h) Q) (Q d h) := Go.mk (fun q => ⟨d, h, rfl, q⟩)
instance w_op2 {f : D → D → Hs → R D} : Go (wp (fOp2 f fa fb env h) Q) (wp (fa env h) fun x h1 => wp (fb env h1) fun y h2 => wp (f x y h2) Q) := Go.mk (fun w => wp_bnd (wp_mono w fun _ _ v => wp_bnd v))
instance w_un {f : D → Hs → R D} : Go (wp (fUn f fa env h) Q) (wp (fa env h) fun x h1 => wp (f x h1) Q) := Go.mk (fun w => wp_bnd w)
instance w_nil  : Go (wp (fNil env h) QA) (QA [] h) := Go.mk (fun q => ⟨_, _, rfl, q⟩)
instance w_cons  : Go (wp (fCons fa fr env h) QA) (wp (fa env h) fun x h1 => wp (fr env h1) fun xs h2 => QA (x :: xs) h2) := Go.mk (fun w => wp_bnd (wp_mono w fun _ _ v => wp_bnd (wp_mono v fun _ _ q => wp_ret q)))
def asB (x : D) (k : Bool → Prop) : Prop := ∃ b, x = .bl b ∧ k b
instance asB_i {b : Bool} {k : Bool → Prop} : Go (asB (.bl b) k) (k b) := Go.mk (fun q => ⟨b, rfl, q⟩)
instance w_test  : Go (wp (fTest fe env h) QB) (wp (fe env h) fun x h1 => asB x fun b => QB b h1) := Go.mk (fun w => wp_bnd (wp_mono w fun x h1 v => by
  obtain ⟨b, rfl, q⟩ := v
  exact wp_ret q))
instance w_tru  : Go (wp (fTru fe env h) QB) (wp (fe env h) fun x h1 => wp (truD x h1) QB) := Go.mk (fun w => wp_bnd w)
instance w_yes  : Go (wp (fYes env h) QB) (QB true h) := Go.mk (fun q => wp_ret q)
instance w_and  : Go (wp (fAnd ft fu env h) QB) (wp (ft env h) fun b h1 => cnd b (wp (fu env h1) QB) (QB false h1)) := Go.mk (fun w => wp_bnd (wp_mono w fun b h1 v => wp_ite ⟨v.1, fun e => wp_ret (v.2 e)⟩))
instance w_or  : Go (wp (fOr ft fu env h) QB) (wp (ft env h) fun b h1 => cnd b (QB true h1) (wp (fu env h1) QB)) := Go.mk (fun w => wp_bnd (wp_mono w fun b h1 v => wp_ite ⟨fun e => wp_ret (v.1 e), v.2⟩))
instance w_not  : Go (wp (fNot ft env h) QB) (wp (ft env h) fun b h1 => QB (!b) h1) := Go.mk (fun w => wp_bnd (wp_mono w fun b h1 v => wp_ret v))
instance w_andv  : Go (wp (fAndV fa fb env h) Q) (wp (fa env h) fun x h1 => asB x fun b => cnd b (wp (fb env h1) Q) (Q (.bl false) h1)) := Go.mk (fun w => wp_bnd (wp_mono w fun x h1 v => by
  obtain ⟨b, rfl, q⟩ := v
  cases b with
  | true => exact q.1 rfl
  | false => exact wp_ret (q.2 rfl)))
instance w_orv  : Go (wp (fOrV fa fb env h) Q) (wp (fa env h) fun x h1 => asB x fun b => cnd b (Q (.bl true) h1) (wp (fb env h1) Q)) := Go.mk (fun w => wp_bnd (wp_mono w fun x h1 v => by
  obtain ⟨b, rfl, q⟩ := v
  cases b with
  | true => exact wp_ret (q.1 rfl)
  | false => exact q.2 rfl))
instance w_notv  : Go (wp (fNotV fa env h) Q) (wp (fa env h) fun x h1 => asB x fun b => Q (.bl (!b)) h1) := Go.mk (fun w => wp_bnd (wp_mono w fun x h1 v => by
  obtain ⟨b, rfl, q⟩ := v
  exact wp_ret q))
instance w_if  : Go (wp (fIf ft fa fb env h) Q) (wp (ft env h) fun b h1 => cnd b (wp (fa env h1) Q) (wp (fb env h1) Q)) := Go.mk (fun w => wp_bnd (wp_mono w fun b h1 v => wp_ite v))
instance w_cb {f : List D → Hs → R D} : Go (wp (fCB f fr env h) Q) (wp (fr env h) fun xs h1 => wp (f xs h1) Q) := Go.mk (fun w => wp_bnd w)
instance w_no {QO : Option Int → Hs → Prop} : Go (wp (fNo env h) QO) (QO none h) := Go.mk (fun q => wp_ret q)
def asI (x : D) (k : Int → Prop) : Prop := ∃ b, x = .int b ∧ k b
instance asI_i {b : Int} {k : Int → Prop} : Go (asI (.int b) k) (k b) := Go.mk (fun q => ⟨b, rfl, q⟩)
instance w_so {QO : Option Int → Hs → Prop} : Go (wp (fSo fe env h) QO) (wp (fe env h) fun x h1 => asI x fun i => QO (some i) h1) := Go.mk (fun w => wp_bnd (wp_mono w fun x h1 v => by
  obtain ⟨b, rfl, q⟩ := v
  exact wp_ret q))
instance w_sl {f : D → Option Int → Option Int → Hs → R D} : Go (wp (fSl f fe fo fp env h) Q) (wp (fe env h) fun x h1 => wp (fo env h1) fun lo h2 => wp (fp env h2) fun hi h3 => wp (f x lo hi h3) Q) := Go.mk (fun w => wp_bnd (wp_mono w fun _ _ v => wp_bnd (wp_mono v fun _ _ v => wp_bnd v)))
instance w_tmp  : Go (wp (fTmp fe env h) Q) (wp (fe env h) fun d h1 => wp (tmpR h (.ok d h1)) Q) := Go.mk (fun w => by
  obtain ⟨d, h1, e, w⟩ := w
  unfold fTmp; rw [e]; exact w)
instance w_tmpB  : Go (wp (fTmpB ft env h) QB) (wp (ft env h) fun d h1 => wp (tmpB h (.ok d h1)) QB) := Go.mk (fun w => by
  obtain ⟨d, h1, e, w⟩ := w
  unfold fTmpB; rw [e]; exact w)
instance w_val  : Go (wp (fVal fe env h) Q) (wp (fe env h) fun d h1 => wp (valR h (.ok d h1)) Q) := Go.mk (fun w => by
  obtain ⟨d, h1, e, w⟩ := w
  unfold fVal; rw [e]; exact w)
instance w_rev  : Go (wp (fRev fa fb env h) Q) (wp (fa env h) fun x h1 => wp (fb env h1) fun y h2 => y = .int (-1) ∧ wp (revD x h2) Q) := Go.mk (fun w => wp_bnd (wp_mono w fun x h1 v => wp_bnd (wp_mono v fun y h2 v => by
  obtain ⟨rfl, v⟩ := v
  exact v)))
instance w_de  : Go (wp (fDE env h) Q) (Q (.ref h.length) (h ++ [.dct []])) := Go.mk (fun q => wp_ret q)
instance w_chain {f f' : D → D → Hs → R D} {fc : FE} : Go (wp (fChain f f' fa fb fc env h) Q) (wp (fa env h) fun x h1 => wp (fb env h1) fun y h2 => wp (f x y h2) fun z h3 => wp (match z with
  | .bl true => (fc env h3).bnd fun u h4 => f' y u h4
  | .bl false => .ok (.bl false) h3
  | _ => .no) Q) := Go.mk (fun w => wp_bnd (wp_mono w fun x h1 v => wp_bnd (wp_mono v fun y h2 v => wp_bnd (wp_mono v fun z h3 v => by
    cases z with
    | bl b => cases b <;> exact v
    | _ => exact v))))
/-! sources -/
variable {QI : Src → Hs → Prop}
instance w_rng2  : Go (wp (fRng2 fr env h) QI) (wp (fr env h) fun xs h1 => ∃ i j : Int, xs = [.int i, .int j] ∧ (i.natAbs < 4611686018427387904 ∧ j.natAbs < 4611686018427387904) ∧ QI ⟨rangeL i (j - i).toNat, []⟩ h1) := Go.mk (fun w => wp_bnd (wp_mono w fun x h1 v => by
  obtain ⟨i, j, rfl, e, q⟩ := v
  simp only []
  rw [if_pos e]
  exact wp_ret q))
end
/-! ### statements -/
section
variable {env : En} {h : Hs} {Q : Fl → Hs → Prop} {QE : En → Hs → Prop} {fe fo fi' : FE} {ft : FT} {fr : FA} {a b : FS} {fg : FG} {fs : FGs}
instance w_next  : Go (wp (fNext env h) Q) (Q (.nx env) h) := Go.mk (fun q => wp_ret q)
instance w_brk  : Go (wp (fBreak env h) Q) (Q (.bk env) h) := Go.mk (fun q => wp_ret q)
instance w_cont  : Go (wp (fCont env h) Q) (Q (.ct env) h) := Go.mk (fun q => wp_ret q)
def seqQ (b : FS) (Q : Fl → Hs → Prop) : Fl → Hs → Prop
  | .nx e, h => wp (b e h) Q
  | fl, h => Q fl h
instance w_seq  : Go (wp (fSeq a b env h) Q) (wp (a env h) (seqQ b Q)) := Go.mk (fun w => wp_bnd (wp_mono w fun fl h1 v => by
  cases fl with
  | nx e => exact v
  | _ => exact wp_ret v))
instance sq_nx {e : En} : Go (seqQ b Q (.nx e) h) (wp (b e h) Q) := Go.mk (fun w => w)
instance sq_rt {d : D} : Go (seqQ b Q (.rt d) h) (Q (.rt d) h) := Go.mk (fun w => w)
instance sq_bk {e : En} : Go (seqQ b Q (.bk e) h) (Q (.bk e) h) := Go.mk (fun w => w)
instance sq_ct {e : En} : Go (seqQ b Q (.ct e) h) (Q (.ct e) h) := Go.mk (fun w => w)
instance w_asg  : Go (wp (fAsg fe fg env h) Q) (wp (fe env h) fun d h1 => wp (fg d env h1) fun e h2 => Q (.nx e) h2) := Go.mk (fun w => wp_bnd (wp_mono w fun _ _ v => wp_bnd (wp_mono v fun _ _ q => wp_ret q)))
instance w_drop  : Go (wp (fDrop fe env h) Q) (wp (fe env h) fun _ h1 => Q (.nx env) h1) := Go.mk (fun w => wp_bnd (wp_mono w fun _ _ q => wp_ret q))
instance w_ret  : Go (wp (fRet fe env h) Q) (wp (fe env h) fun d h1 => Q (.rt d) h1) := Go.mk (fun w => wp_bnd (wp_mono w fun _ _ q => wp_ret q))
instance w_retN  : Go (wp (fRetN env h) Q) (Q (.rt .non) h) := Go.mk (fun q => wp_ret q)
instance w_ifS  : Go (wp (fIfS ft a b env h) Q) (wp (ft env h) fun c h1 => cnd c (wp (a env h1) Q) (wp (b env h1) Q)) := Go.mk (fun w => wp_bnd (wp_mono w fun _ _ v => wp_ite v))
theorem w_gT {n : Nat} {ds : List D} (hn : ds.length = n) (w : wp (fs ds env h) QE) : wp (gT n fs (.tup ds) env h) QE := by
  show wp (if ds.length = n then fs ds env h else .no) QE
  rw [if_pos hn]; exact w
instance w_gC {d : D} {r : List D} : Go (wp (gConsF fg fs (d :: r) env h) QE) (wp (fg d env h) fun e h1 => wp (fs r e h1) QE) := Go.mk (fun w => wp_bnd w)
instance w_g0  : Go (wp (gNilF [] env h) QE) (QE env h) := Go.mk (fun q => wp_ret q)
/-! loops -/
def flk (J : En → Hs → Prop) (Q : Fl → Hs → Prop) : Fl → Hs → Prop
  | .nx e, h => J e h
  | .ct e, h => J e h
  | .bk e, h => Q (.nx e) h
  | .rt d, h => Q (.rt d) h
instance flk_nx {J : En → Hs → Prop} {e : En} : Go (flk J Q (.nx e) h) (J e h) := Go.mk (fun q => q)
instance flk_ct {J : En → Hs → Prop} {e : En} : Go (flk J Q (.ct e) h) (J e h) := Go.mk (fun q => q)
instance flk_bk {J : En → Hs → Prop} {e : En} : Go (flk J Q (.bk e) h) (Q (.nx e) h) := Go.mk (fun q => q)
instance flk_rt {J : En → Hs → Prop} {d : D} : Go (flk J Q (.rt d) h) (Q (.rt d) h) := Go.mk (fun q => q)
theorem w_forN {α : Type} {s : Src} {emb : α → D} (l : List α) (J : List α → En → Hs → Prop) (hg : ∀ k e h, J k e h → s.good h)
    (hs : ∀ done x rest e h, l = done ++ x :: rest → J done e h → wp (fg (emb x) e h) fun e1 h1 => wp (b e1 h1) (flk (J (done ++ [x])) Q)) (hq : ∀ e h, J l e h → Q (.nx e) h) :
    ∀ (rest done : List α) (e : En) (h : Hs), l = done ++ rest → J done e h → wp (forN fg b s (rest.map emb) e h) Q
  | [], done, e, h, p, j => by
    rw [List.append_nil] at p
    subst p
    rw [List.map_nil]
    unfold forN
    rw [if_pos (hg _ e h j)]
    exact wp_ret (hq _ _ j)
  | x :: r, done, e, h, p, j => by
    obtain ⟨e1, h1, q1, fl, h2, q2, k⟩ := hs done x r e h p j
    rw [List.map_cons]
    unfold forN
    rw [if_pos (hg _ e h j), q1]
    simp only [bnd_ok]
    rw [q2]
    simp only [bnd_ok]
    cases fl with
    | nx e2 => exact w_forN l J hg hs hq r (done ++ [x]) e2 h2 (by simp [p]) k
    | ct e2 => exact w_forN l J hg hs hq r (done ++ [x]) e2 h2 (by simp [p]) k
    | bk e2 => exact wp_ret k
    | rt d => exact wp_ret k
/-- what a loop wants -/
structure ForW {α : Type} (fg : FG) (b : FS) (s : Src) (emb : α → D) (l : List α) (env : En) (h : Hs) (Q : Fl → Hs → Prop) (J : List α → En → Hs → Prop) : Prop where
  it : s.items = l.map emb
  j0 : J [] env h
  gd : ∀ k e h, J k e h → s.good h
  st : ∀ done x rest e h, l = done ++ x :: rest → J done e h → wp (fg (emb x) e h) fun e1 h1 => wp (b e1 h1) (flk (J (done ++ [x])) Q)
  en : ∀ e h, J l e h → Q (.nx e) h
theorem w_for {fi : FI} {fg : FG} {b : FS} (w : wp (fi env h) fun s h1 => ∃ (α : Type) (emb : α → D) (l : List α) (J : List α → En → Hs → Prop), ForW fg b s emb l env h1 Q J) : wp (fFor fi fg b env h) Q := wp_bnd (wp_mono w fun s h1 v => by
  obtain ⟨α, emb, l, J, f⟩ := v
  rw [f.it]
  exact w_forN l J f.gd f.st f.en l [] env h1 rfl f.j0)
theorem whileN_w {fc : FT} {fb : FS} (J : Nat → En → Hs → Prop) (hs : ∀ n e h, J n e h → wp (fc e h) fun c h1 => cnd c (wp (fb e h1) (flk (fun e' h' => ∃ m, m < n ∧ J m e' h') Q)) (Q (.nx e) h1)) :
    ∀ (k n : Nat) (e : En) (h : Hs), n < k → J n e h → ∃ fl h', whileN fc fb k e h = .ok fl h' ∧ Q fl h'
  | 0, _, _, _, p, _ => by omega
  | k + 1, n, e, h, p, j => by
    obtain ⟨c, h1, e1, w⟩ := hs n e h j
    unfold whileN
    rw [e1]
    simp only [bnd_ok]
    cases c with
    | false => exact ⟨_, _, rfl, w.2 rfl⟩
    | true =>
      obtain ⟨fl, h2, e2, q⟩ := w.1 rfl
      simp only [if_true]
      rw [e2]
      simp only [bnd_ok]
      cases fl with
      | nx e' => obtain ⟨m, hm, j'⟩ := q; exact whileN_w J hs k m e' h2 (by omega) j'
      | ct e' => obtain ⟨m, hm, j'⟩ := q; exact whileN_w J hs k m e' h2 (by omega) j'
      | bk e' => exact ⟨_, _, rfl, q⟩
      | rt d => exact ⟨_, _, rfl, q⟩
theorem w_while {fc : FT} {fb : FS} (J : Nat → En → Hs → Prop) {n : Nat} (j : J n env h) (hs : ∀ n e h, J n e h → wp (fc e h) fun c h1 => cnd c (wp (fb e h1) (flk (fun e' h' => ∃ m, m < n ∧ J m e' h') Q)) (Q (.nx e) h1)) : wp (fWhile fc fb env h) Q := by
  obtain ⟨fl, h', e, q⟩ := whileN_w J hs (n + 1) n env h (Nat.lt_succ_self n) j
  exact ⟨fl, h', fWhile_eq e (fun z => z), q⟩
end
/-! ### leaves -/
section
variable {h : Hs} {Q : D → Hs → Prop} {QB : Bool → Hs → Prop}
instance l_addI {i j : Int} : Go (wp (addD (.int i) (.int j) h) Q) (Q (.int (i + j)) h) := Go.mk (fun q => wp_ret q)
theorem l_addS {s t : List Nat} (hl : s.length + t.length ≤ 16777216) (q : Q (.str (s ++ t)) h) : wp (addD (.str s) (.str t) h) Q := wp_if hl (wp_ret q)
theorem l_addT {s t : List D} (hl : s.length + t.length ≤ 16777216) (q : Q (.tup (s ++ t)) h) : wp (addD (.tup s) (.tup t) h) Q := wp_if hl (wp_ret q)
theorem l_addL {x y : D} {s t : List D} (e : lof h x = some s) (e' : lof h y = some t) (hl : s.length + t.length ≤ 16777216) (q : Q (.ref h.length) (h ++ [.lst (s ++ t)])) : wp (addD x y h) Q := by
  have e1 : addD x y h = .ok (.ref h.length) (h ++ [.lst (s ++ t)]) := by
    unfold addD
    split
    · cases e
    · cases e
    · cases e
    · rw [e, e']; simp only []; rw [if_pos hl]
  exact wp_eq e1 q
instance l_iaddI {i j : Int} : Go (wp (iaddD (.int i) (.int j) h) Q) (Q (.int (i + j)) h) := Go.mk (fun q => wp_ret q)
theorem l_iaddS {s t : List Nat} (hl : s.length + t.length ≤ 16777216) (q : Q (.str (s ++ t)) h) : wp (iaddD (.str s) (.str t) h) Q := wp_if hl (wp_ret q)
instance l_subI {i j : Int} : Go (wp (subD (.int i) (.int j) h) Q) (Q (.int (i - j)) h) := Go.mk (fun q => wp_ret q)
instance l_negI {i : Int} : Go (wp (negD (.int i) h) Q) (Q (.int (-i)) h) := Go.mk (fun q => wp_ret q)
instance l_ltI {i j : Int} : Go (wp (ltD (.int i) (.int j) h) Q) (Q (.bl (decide (i < j))) h) := Go.mk (fun q => wp_ret q)
instance l_leI {i j : Int} : Go (wp (leD (.int i) (.int j) h) Q) (Q (.bl (decide (i ≤ j))) h) := Go.mk (fun q => wp_ret q)
instance l_gtI {i j : Int} : Go (wp (gtD (.int i) (.int j) h) Q) (Q (.bl (decide (j < i))) h) := Go.mk (fun q => wp_ret q)
instance l_geI {i j : Int} : Go (wp (geD (.int i) (.int j) h) Q) (Q (.bl (decide (j ≤ i))) h) := Go.mk (fun q => wp_ret q)
instance l_eqS {s t : List Nat} : Go (wp (eqD (.str s) (.str t) h) Q) (Q (.bl (s == t)) h) := Go.mk (fun q => wp_eq (eqD_str _ _ _) q)
instance l_neS {s t : List Nat} : Go (wp (neD (.str s) (.str t) h) Q) (Q (.bl (!(s == t))) h) := Go.mk (fun q => wp_eq (neD_str _ _ _) q)
instance l_eqI {s t : Int} : Go (wp (eqD (.int s) (.int t) h) Q) (Q (.bl (s == t)) h) := Go.mk (fun q => wp_eq (eqD_int _ _ _) q)
instance l_neI {s t : Int} : Go (wp (neD (.int s) (.int t) h) Q) (Q (.bl (!(s == t))) h) := Go.mk (fun q => wp_eq (neD_int _ _ _) q)
instance l_eqB {s t : Bool} : Go (wp (eqD (.bl s) (.bl t) h) Q) (Q (.bl (s == t)) h) := Go.mk (fun q => wp_eq (eqD_bl _ _ _) q)
instance l_neB {s t : Bool} : Go (wp (neD (.bl s) (.bl t) h) Q) (Q (.bl (!(s == t))) h) := Go.mk (fun q => wp_eq (neD_bl _ _ _) q)
theorem l_eqN {x y : D} (hx : x.nor = true) (hy : y.nor = true) (dx : dpt x ≤ 60) (dy : dpt y ≤ 60) (q : Q (.bl (deq x y)) h) : wp (eqD x y h) Q := wp_eq (eqD_nor hx hy dx dy) q
theorem l_neN {x y : D} (hx : x.nor = true) (hy : y.nor = true) (dx : dpt x ≤ 60) (dy : dpt y ≤ 60) (q : Q (.bl (!deq x y)) h) : wp (neD x y h) Q := wp_eq (neD_nor hx hy dx dy) q
theorem l_ixT {ds : List D} {i : Int} {d : D} (e : atI ds i = some d) (q : Q d h) : wp (ixD (.tup ds) (.int i) h) Q := by
  refine wp_eq (a := d) (h := h) ?_ q
  show (match atI ds i with
    | some d => R.ok d h
    | none => .no) = _
  rw [e]
theorem l_ixL {ds : List D} {i : Int} {d : D} (e : atI ds i = some d) (q : Q d h) : wp (ixD (.lst ds) (.int i) h) Q := by
  refine wp_eq (a := d) (h := h) ?_ q
  show (match atI ds i with
    | some d => R.ok d h
    | none => .no) = _
  rw [e]
theorem l_ixS {s : List Nat} {i : Int} {c : Nat} (e : atI s i = some c) (q : Q (.str [c]) h) : wp (ixD (.str s) (.int i) h) Q := by
  refine wp_eq (a := .str [c]) (h := h) ?_ q
  show (match atI s i with
    | some c => R.ok (D.str [c]) h
    | none => .no) = _
  rw [e]
theorem l_ixR {n : Nat} {ds : List D} {i : Int} {d : D} (e' : h[n]? = some (.lst ds)) (e : atI ds i = some d) (q : Q d h) : wp (ixD (.ref n) (.int i) h) Q := by
  refine wp_eq (a := d) (h := h) ?_ q
  have e1 : lof h (.ref n) = some ds := by unfold lof; simp only []; rw [e']
  show (match lof h (.ref n) with
    | some ds => match atI ds i with
      | some d => R.ok d h
      | none => .no
    | none => .no) = _
  rw [e1]
  show (match atI ds i with
    | some d => R.ok d h
    | none => .no) = _
  rw [e]
instance l_ixAT {ds : List D} {y : D} : Go (wp (ixA (.tup ds) y h) Q) (wp (ixD (.tup ds) y h) Q) := Go.mk (fun w => w)
instance l_ixAL {ds : List D} {y : D} : Go (wp (ixA (.lst ds) y h) Q) (wp (ixD (.lst ds) y h) Q) := Go.mk (fun w => w)
instance l_ixAS {s : List Nat} {y : D} : Go (wp (ixA (.str s) y h) Q) (wp (ixD (.str s) y h) Q) := Go.mk (fun w => w)
theorem l_ixAD {ks ws : List D} {y d : D} {k : Key} {kvs : List (D × D)} (e0 : dof h (.dct ks ws) = some kvs) (e : keyOf y = some k) (e' : getK kvs y = some d) (q : Q d h) : wp (ixA (.dct ks ws) y h) Q := by
  refine wp_eq (a := d) (h := h) ?_ q
  unfold ixA; rw [e0]; simp only []; rw [e, e']
theorem l_ixAR {n : Nat} {y d : D} {k : Key} {kvs : List (D × D)} (e0 : dof h (.ref n) = some kvs) (e : keyOf y = some k) (e' : getK kvs y = some d) (q : Q d h) : wp (ixA (.ref n) y h) Q := by
  refine wp_eq (a := d) (h := h) ?_ q
  unfold ixA; rw [e0]; simp only []; rw [e, e']
instance l_lenS {s : List Nat} : Go (wp (lenD [.str s] h) Q) (Q (.int s.length) h) := Go.mk (fun q => wp_ret q)
instance l_lenT {s : List D} : Go (wp (lenD [.tup s] h) Q) (Q (.int s.length) h) := Go.mk (fun q => wp_ret q)
instance l_lenL {s : List D} : Go (wp (lenD [.lst s] h) Q) (Q (.int s.length) h) := Go.mk (fun q => wp_ret q)
instance l_listT {s : List D} : Go (wp (listD [.tup s] h) Q) (Q (.ref h.length) (h ++ [.lst s])) := Go.mk (fun q => wp_ret q)
instance l_listL {s : List D} : Go (wp (listD [.lst s] h) Q) (Q (.ref h.length) (h ++ [.lst s])) := Go.mk (fun q => wp_ret q)
theorem lof_ref {n : Nat} {ds : List D} (e : h[n]? = some (.lst ds)) : lof h (.ref n) = some ds := by unfold lof; simp only []; rw [e]
theorem l_lenR {n : Nat} {ds : List D} (e : h[n]? = some (.lst ds)) (q : Q (.int ds.length) h) : wp (lenD [.ref n] h) Q := by
  refine wp_eq (a := .int ds.length) (h := h) ?_ q
  unfold lenD; simp only []; rw [lof_ref e]
instance l_tupT {s : List D} : Go (wp (tupleD [.tup s] h) Q) (Q (.tup s) h) := Go.mk (fun q => wp_ret q)
instance l_tupL {s : List D} : Go (wp (tupleD [.lst s] h) Q) (Q (.tup s) h) := Go.mk (fun q => wp_ret q)
theorem l_tupR {n : Nat} {ds : List D} (e : h[n]? = some (.lst ds)) (q : Q (.tup ds) h) : wp (tupleD [.ref n] h) Q := by
  refine wp_eq (a := .tup ds) (h := h) ?_ q
  unfold tupleD; simp only []; rw [lof_ref e]
theorem l_listR {n : Nat} {ds : List D} (e : h[n]? = some (.lst ds)) (q : Q (.ref h.length) (h ++ [.lst ds])) : wp (listD [.ref n] h) Q := by
  refine wp_eq (a := .ref h.length) (h := h ++ [.lst ds]) ?_ q
  unfold listD; simp only []; rw [lof_ref e]
instance l_slS {s : List Nat} {lo hi : Option Int} : Go (wp (slD (.str s) lo hi h) Q) (Q (.str (cutL s lo hi)) h) := Go.mk (fun q => wp_ret q)
instance l_slT {s : List D} {lo hi : Option Int} : Go (wp (slD (.tup s) lo hi h) Q) (Q (.tup (cutL s lo hi)) h) := Go.mk (fun q => wp_ret q)
instance l_slL {s : List D} {lo hi : Option Int} : Go (wp (slD (.lst s) lo hi h) Q) (Q (.ref h.length) (h ++ [.lst (cutL s lo hi)])) := Go.mk (fun q => wp_ret q)
theorem l_slR {n : Nat} {s : List D} {lo hi : Option Int} (e : h[n]? = some (.lst s)) (q : Q (.ref h.length) (h ++ [.lst (cutL s lo hi)])) : wp (slD (.ref n) lo hi h) Q := by
  refine wp_eq (a := .ref h.length) (h := h ++ [.lst (cutL s lo hi)]) ?_ q
  unfold slD; simp only []; rw [lof_ref e]
instance l_truB {b : Bool} : Go (wp (truD (.bl b) h) QB) (QB b h) := Go.mk (fun q => wp_ret q)
instance l_truT {s : List D} : Go (wp (truD (.tup s) h) QB) (QB (!s.isEmpty) h) := Go.mk (fun q => wp_ret q)
instance l_truS {s : List Nat} : Go (wp (truD (.str s) h) QB) (QB (!s.isEmpty) h) := Go.mk (fun q => wp_ret q)
instance l_truN  : Go (wp (truD .non h) QB) (QB false h) := Go.mk (fun q => wp_ret q)
instance l_intI {i : Int} : Go (wp (PF.intD [.int i] h) Q) (Q (.int i) h) := Go.mk (fun q => wp_ret q)
instance l_revT {s : List D} : Go (wp (revD (.tup s) h) Q) (Q (.tup s.reverse) h) := Go.mk (fun q => wp_ret q)
instance l_revL {s : List D} : Go (wp (revD (.lst s) h) Q) (Q (.ref h.length) (h ++ [.lst s.reverse])) := Go.mk (fun q => wp_ret q)
theorem l_revR {n : Nat} {s : List D} (e : h[n]? = some (.lst s)) (q : Q (.ref h.length) (h ++ [.lst s.reverse])) : wp (revD (.ref n) h) Q := by
  refine wp_eq (a := .ref h.length) (h := h ++ [.lst s.reverse]) ?_ q
  unfold revD; simp only []; rw [lof_ref e]
theorem own_ref {n : Nat} {ds : List D} (e : h[n]? = some (.lst ds)) : own h (.ref n) = some (n, ds) := by unfold own; simp only []; rw [e]
theorem tyD_list {n : Nat} {ds : List D} (e : h[n]? = some (.lst ds)) : tyD "list" h (.ref n) = true := by unfold tyD; simp only []; rw [lof_ref e]; rfl
theorem l_append {n : Nat} {ds : List D} {d : D} (e : h[n]? = some (.lst ds)) (hl : ds.length < 16777216) (q : Q .non (h.set n (.lst (ds ++ [d])))) : wp (appendD (.ref n) [d] h) Q := by
  refine wp_eq ?_ q
  unfold appendD; rw [own_ref e]; simp only []; rw [if_pos hl]
theorem l_extend {n : Nat} {ds es : List D} {d : D} (e : h[n]? = some (.lst ds)) (e' : lof h d = some es) (hl : ds.length + es.length ≤ 16777216) (q : Q .non (h.set n (.lst (ds ++ es)))) : wp (extendD (.ref n) [d] h) Q := by
  refine wp_eq ?_ q
  unfold extendD; rw [own_ref e]; simp only []; rw [e']; simp only []; rw [if_pos hl]
theorem l_pop {n : Nat} {ds : List D} {d : D} (e : h[n]? = some (.lst (ds ++ [d]))) (q : Q d (h.set n (.lst ds))) : wp (popD (.ref n) [] h) Q := by
  refine wp_eq ?_ q
  unfold popD; rw [own_ref e]; simp only [List.length_append, List.length_cons, List.length_nil, Nat.zero_add, Nat.add_sub_cancel]; rw [List.getElem?_append_right (Nat.le_refl _)]; simp
theorem l_join {sep : List Nat} {y : D} {ds : List D} {l : List (List Nat)} (e : seqOf h y = some ds) (e' : txts ds = some l) (hl : lenSum l + l.length * sep.length ≤ 16777216) (q : Q (.str (joinL sep l)) h) : wp (joinD (.str sep) [y] h) Q := by
  refine wp_eq (a := .str (joinL sep l)) (h := h) ?_ q
  unfold joinD; simp only []; rw [e]; simp only []; rw [e']; simp only []; rw [if_pos hl]
/-! temporaries and values -/
theorem t_id {d : D} (hp : d.pur = true) (q : Q d h) : wp (tmpR h (.ok d h)) Q := wp_eq (tmpR_id hp) q
theorem t_nor {d : D} (hp : d.nor = true) (q : Q d h) : wp (tmpR h (.ok d h)) Q := wp_eq (tmp_nor hp) q
theorem t_new {o : Ob} (q : Q (.ref h.length) (h ++ [o])) : wp (tmpR h (.ok (.ref h.length) (h ++ [o]))) Q := wp_eq (tmp_new h o) q
instance tb_id {d : Bool} : Go (wp (PF.tmpB h (.ok d h)) QB) (QB d h) := Go.mk (fun q => wp_eq (tmpB_id h d) q)
theorem v_nor {d : D} (hp : d.nor = true) (q : Q d h) : wp (valR h (.ok d h)) Q := wp_eq (val_nor hp) q
theorem frm_0 : Frm 0 (fun _ r => r) := ⟨fun _ _ _ => rfl, fun _ _ => rfl, fun n b r _ h => h⟩
end
section
variable {m : Nat} {fr : Bn → Hs → Hs} (F : Frm m fr) {b b' : Bn} {r junk : Hs} {Q : D → Hs → Prop} {QB : Bool → Hs → Prop}
include F
theorem f_tmp {d : D} (hd : d.pur = true) (h : r.all obNor = true) (q : Q d (fr b' r)) : wp (tmpR (fr b r) (.ok d (fr b' r))) Q := wp_eq (F.tmp' hd h) q
theorem f_tmpJ {d : D} (hd : d.pur = true) (h : r.all obNor = true) (q : Q d (fr b' r)) : wp (tmpR (fr b r) (.ok d (fr b' (r ++ junk)))) Q := wp_eq (F.tmp hd h) q
theorem f_tmpB {d : Bool} (h : r.all obNor = true) (q : QB d (fr b' r)) : wp (PF.tmpB (fr b r) (.ok d (fr b' r))) QB := wp_eq (F.tmpB' h) q
theorem f_tmpBJ {d : Bool} (h : r.all obNor = true) (q : QB d (fr b' r)) : wp (PF.tmpB (fr b r) (.ok d (fr b' (r ++ junk)))) QB := wp_eq (F.tmpB h) q
theorem f_val {d : D} (hd : d.nor = true) (h : r.all obNor = true) (q : Q d (fr b' r)) : wp (valR (fr b r) (.ok d (fr b' r))) Q := wp_eq (F.val' hd h) q
theorem f_valJ {d : D} (hd : d.nor = true) (h : r.all obNor = true) (q : Q d (fr b' r)) : wp (valR (fr b r) (.ok d (fr b' (r ++ junk)))) Q := wp_eq (F.val hd h) q
theorem f_new {n : Nat} {ds : List D} (hn : nors ds = true) (h : r.all obNor = true) (e : n = r.length + m) (q : Q (.lst ds) (fr b' r)) : wp (valR (fr b r) (.ok (.ref n) (fr b' (r ++ [.lst ds])))) Q := wp_eq (F.new' hn h e) q
theorem f_newJ {n : Nat} {ds : List D} (hn : nors ds = true) (h : r.all obNor = true) (e : n = r.length + m + junk.length) (q : Q (.lst ds) (fr b' r)) : wp (valR (fr b r) (.ok (.ref n) (fr b' (r ++ junk ++ [.lst ds])))) Q := wp_eq (F.new hn h e) q
end
/-! ### comprehensions that are values -/
section
variable {m : Nat} {fr : Bn → Hs → Hs}
structure LcW {α : Type} (fr : Bn → Hs → Hs) (fg : FG) (fc : FT) (fe : FE) (s : Src) (emb : α → D) (l : List α) (env : En) (r : Hs) (b : Bn) (Q : D → Hs → Prop) (J : List α → List D → Prop) : Prop where
  it : s.items = l.map emb
  hl : l.length ≤ 16777216
  rn : r.all obNor = true
  gd : ∀ b acc, s.good (fr b (r ++ [.lst acc]))
  j0 : J [] []
  st : ∀ done x rest acc b1, l = done ++ x :: rest → J done acc → nors acc = true → wp (fg (emb x) env (fr b1 (r ++ [.lst acc]))) fun e h1 => wp (fc e h1) fun t h2 => cnd t (wp (fe e h2) fun y h3 => ∃ b3, h3 = fr b3 (r ++ [.lst acc]) ∧ y.nor = true ∧ J (done ++ [x]) (acc ++ [y])) (∃ b3, h2 = fr b3 (r ++ [.lst acc]) ∧ J (done ++ [x]) acc)
  en : ∀ acc b', J l acc → nors acc = true → Q (.lst acc) (fr b' r)
theorem lcN_w (F : Frm m fr) {α : Type} {fg : FG} {fc : FT} {fe : FE} {s : Src} {emb : α → D} {l : List α} {env : En} {r : Hs} {J : List α → List D → Prop} (hl : l.length ≤ 16777216) (gd : ∀ b acc, s.good (fr b (r ++ [.lst acc])))
    (st : ∀ done x rest acc b1, l = done ++ x :: rest → J done acc → nors acc = true → wp (fg (emb x) env (fr b1 (r ++ [.lst acc]))) fun e h1 => wp (fc e h1) fun t h2 => cnd t (wp (fe e h2) fun y h3 => ∃ b3, h3 = fr b3 (r ++ [.lst acc]) ∧ y.nor = true ∧ J (done ++ [x]) (acc ++ [y])) (∃ b3, h2 = fr b3 (r ++ [.lst acc]) ∧ J (done ++ [x]) acc)) :
    ∀ (rest done : List α) (acc : List D) (b : Bn), l = done ++ rest → J done acc → nors acc = true → acc.length ≤ done.length → ∃ acc' b', lcN fg fc fe s (r.length + m) env (rest.map emb) (fr b (r ++ [.lst acc])) = .ok () (fr b' (r ++ [.lst acc'])) ∧ J l acc' ∧ nors acc' = true
  | [], done, acc, b, p, j, hn, hb => by
    rw [List.append_nil] at p
    subst p
    refine ⟨acc, b, ?_, j, hn⟩
    rw [List.map_nil]
    unfold lcN
    rw [if_pos (gd _ _)]
  | x :: rest, done, acc, b, p, j, hn, hb => by
    obtain ⟨e, h1, q1, t, h2, q2, w⟩ := st done x rest acc b p j hn
    rw [List.map_cons]
    unfold lcN
    rw [if_pos (gd _ _), q1]
    simp only [bnd_ok]
    rw [q2]
    simp only [bnd_ok]
    have hp := congrArg List.length p
    simp only [List.length_append, List.length_cons] at hp
    cases t with
    | false =>
      obtain ⟨b3, rfl, j'⟩ := w.2 rfl
      simp only [Bool.false_eq_true, if_false]
      exact lcN_w F hl gd st rest (done ++ [x]) acc b3 (by simp [p]) j' hn (by simp; omega)
    | true =>
      obtain ⟨y, h3, q3, b3, rfl, hy, j'⟩ := w.1 rfl
      simp only [if_true]
      rw [q3]
      simp only [bnd_ok]
      have e1 : (fr b3 (r ++ [.lst acc]))[r.length + m]? = some (.lst acc) := by
        rw [F.app, List.getElem?_append_right (by rw [F.len]; omega), F.len]; simp
      rw [e1]
      simp only []
      rw [if_pos (by omega)]
      have e2 : (fr b3 (r ++ [.lst acc])).set (r.length + m) (.lst (acc ++ [y])) = fr b3 (r ++ [.lst (acc ++ [y])]) := by
        rw [F.app, F.app, List.set_append_right _ _ (by rw [F.len]; omega), F.len]; simp
      rw [e2]
      exact lcN_w F hl gd st rest (done ++ [x]) (acc ++ [y]) b3 (by simp [p]) j' (by rw [nors_append, hn]; simp [hy]) (by simp; omega)
theorem w_vlc (F : Frm m fr) {fi : FI} {fg : FG} {fc : FT} {fe : FE} {vs : List Nat} {env : En} {r : Hs} {b : Bn} {Q : D → Hs → Prop}
    (w : wp (fi env (fr b r)) fun s h1 => ∃ b1, h1 = fr b1 r ∧ ∃ (α : Type) (emb : α → D) (l : List α) (J : List α → List D → Prop), LcW fr fg fc fe s emb l (wipeE env vs) r b Q J) : wp (fVal (fLc fi fg fc fe vs) env (fr b r)) Q := by
  obtain ⟨s, h1, e, b1, rfl, α, emb, l, J, f⟩ := w
  obtain ⟨acc', b', q1, q2, q3⟩ := lcN_w F (env := wipeE env vs) f.hl f.gd f.st l [] [] b1 rfl f.j0 rfl (Nat.le_refl 0)
  refine wp_eq (a := .lst acc') (h := fr b' r) ?_ (f.en acc' b' q2 q3)
  unfold fVal fLc
  rw [e]
  simp only [bnd_ok]
  rw [F.len, ← F.app, f.it, q1]
  simp only [bnd_ok]
  exact F.new' q3 f.rn rfl
end
/-! ### calls -/
def callG (F : List D → RP) (ds : List D) (h : Hs) (Q : D → Hs → Prop) : Prop := wp (match dall (dcl h) ds with
  | some ds => match F ds with
    | .val d => .ok d h
    | .obj o => .ok (.ref h.length) (h ++ [o])
    | .er _ => .no
    | .no => .no
  | none => .no) Q
def callXG (F : List D → RP) (env : En) (ds : List D) (h : Hs) (Q : D → Hs → Prop) : Prop := wp (match dall (dcl h) ds with
  | some ds => match F ds with
    | .val d => .ok d h
    | .obj o => .ok (.ref h.length) (h ++ [o])
    | .er e => .er e env h
    | .no => .no
  | none => .no) Q
section
variable {env : En} {h : Hs} {Q : D → Hs → Prop} {fr : FA} {F : List D → RP} {ds ds' : List D}
instance w_call  : Go (wp (fCall F fr env h) Q) (wp (fr env h) fun ds h1 => callG F ds h1 Q) := Go.mk (fun w => wp_bnd w)
instance w_callX  : Go (wp (fCallX F fr env h) Q) (wp (fr env h) fun ds h1 => callXG F env ds h1 Q) := Go.mk (fun w => wp_bnd w)
theorem c_val' {d : D} (hd : dall (dcl h) ds = some ds') (e : F ds' = .val d) (q : Q d h) : callG F ds h Q := by unfold callG; rw [hd]; simp only []; rw [e]; exact wp_ret q
theorem c_val {d : D} (hn : nors ds = true) (e : F ds = .val d) (q : Q d h) : callG F ds h Q := c_val' (dall_nor h ds hn) e q
theorem c_obj' {o : Ob} (hd : dall (dcl h) ds = some ds') (e : F ds' = .obj o) (q : Q (.ref h.length) (h ++ [o])) : callG F ds h Q := by unfold callG; rw [hd]; simp only []; rw [e]; exact wp_ret q
theorem c_obj {o : Ob} (hn : nors ds = true) (e : F ds = .obj o) (q : Q (.ref h.length) (h ++ [o])) : callG F ds h Q := c_obj' (dall_nor h ds hn) e q
theorem cX_val' {d : D} (hd : dall (dcl h) ds = some ds') (e : F ds' = .val d) (q : Q d h) : callXG F env ds h Q := by unfold callXG; rw [hd]; simp only []; rw [e]; exact wp_ret q
theorem cX_val {d : D} (hn : nors ds = true) (e : F ds = .val d) (q : Q d h) : callXG F env ds h Q := cX_val' (dall_nor h ds hn) e q
end
def callBG (F : List D → List Int → Bn → RB) (xs : List D) (h1 : Hs) (Q : D → Hs → Prop) : Prop := wp (match xs with
  | .ref n :: r => match rdB n h1 with
    | some (b, m, cs) => if n ≠ m then match dall (dcl (mask h1 n m)) r with
      | some ds => match F ds cs b with
        | .val d b' => .ok d (setB h1 n m b')
        | .obj o b' => .ok (.ref h1.length) (setB h1 n m b' ++ [o])
        | .no => .no
      | none => .no
      else .no
    | none => .no
  | _ => .no) Q
section
variable {env : En} {h : Hs} {Q : D → Hs → Prop} {fr : FA} {F : List D → List Int → Bn → RB} {r ds : List D} {cs : List Int} {b : Bn} {R : Hs}
instance w_callB  : Go (wp (fCallB F fr env h) Q) (wp (fr env h) fun xs h1 => callBG F xs h1 Q) := Go.mk (fun w => wp_bnd w)
theorem cG' {P : D → Prop} (hd : dall (dcl (hid :: hid :: R)) r = some ds) (e : ∃ d b', F ds cs b = .val d b' ∧ P d) (q : ∀ d b', P d → Q d (BG cs b' R)) : callBG F (.ref 0 :: r) (BG cs b R) Q := by
  obtain ⟨d, b', e, p⟩ := e
  have hr : rdB 0 (BG cs b R) = some (b, 1, cs) := by simp [rdB, bagO]
  refine wp_eq (a := d) (h := BG cs b' R) ?_ (q d b' p)
  simp only [hr, ne_eq, Nat.zero_ne_one, not_false_eq_true, if_true]
  have hm : mask (BG cs b R) 0 1 = hid :: hid :: R := rfl
  rw [hm, hd]
  simp only []
  rw [e]
  rfl
theorem cH' {P : D → Prop} (hd : dall (dcl (hid :: hid :: R)) r = some ds) (e : ∃ d b', F ds cs b = .val d b' ∧ P d) (q : ∀ d b', P d → Q d (BH cs b' R)) : callBG F (.ref 1 :: r) (BH cs b R) Q := by
  obtain ⟨d, b', e, p⟩ := e
  have hr : rdB 1 (BH cs b R) = some (b, 0, cs) := by simp [rdB, bagO]
  refine wp_eq (a := d) (h := BH cs b' R) ?_ (q d b' p)
  simp only [hr, ne_eq, Nat.one_ne_zero, not_false_eq_true, if_true]
  have hm : mask (BH cs b R) 1 0 = hid :: hid :: R := rfl
  rw [hm, hd]
  simp only []
  rw [e]
  rfl
theorem cT' {P : D → Prop} (hd : dall (dcl (Ob.tb :: hid :: hid :: R)) r = some ds) (e : ∃ d b', F ds cs b = .val d b' ∧ P d) (q : ∀ d b', P d → Q d (BT cs b' R)) : callBG F (.ref 2 :: r) (BT cs b R) Q := by
  obtain ⟨d, b', e, p⟩ := e
  have hr : rdB 2 (BT cs b R) = some (b, 1, cs) := by simp [rdB, bagO]
  refine wp_eq (a := d) (h := BT cs b' R) ?_ (q d b' p)
  simp only [hr, ne_eq, show ¬ (2 = 1) by decide, not_false_eq_true, if_true]
  have hm : mask (BT cs b R) 2 1 = Ob.tb :: hid :: hid :: R := rfl
  rw [hm, hd]
  simp only []
  rw [e]
  rfl
theorem cG {P : D → Prop} (hn : nors r = true) (e : ∃ d b', F r cs b = .val d b' ∧ P d) (q : ∀ d b', P d → Q d (BG cs b' R)) : callBG F (.ref 0 :: r) (BG cs b R) Q := cG' (dall_nor _ r hn) e q
theorem cH {P : D → Prop} (hn : nors r = true) (e : ∃ d b', F r cs b = .val d b' ∧ P d) (q : ∀ d b', P d → Q d (BH cs b' R)) : callBG F (.ref 1 :: r) (BH cs b R) Q := cH' (dall_nor _ r hn) e q
theorem cT {P : D → Prop} (hn : nors r = true) (e : ∃ d b', F r cs b = .val d b' ∧ P d) (q : ∀ d b', P d → Q d (BT cs b' R)) : callBG F (.ref 2 :: r) (BT cs b R) Q := cT' (dall_nor _ r hn) e q
theorem coG' {P : Ob → Prop} (hd : dall (dcl (hid :: hid :: R)) r = some ds) (e : ∃ d b', F ds cs b = .obj d b' ∧ P d) (q : ∀ d b', P d → Q (.ref (R.length + 2)) (BG cs b' (R ++ [d]))) : callBG F (.ref 0 :: r) (BG cs b R) Q := by
  obtain ⟨d, b', e, p⟩ := e
  have hr : rdB 0 (BG cs b R) = some (b, 1, cs) := by simp [rdB, bagO]
  refine wp_eq (a := .ref (R.length + 2)) (h := BG cs b' (R ++ [d])) ?_ (q d b' p)
  simp only [hr, ne_eq, Nat.zero_ne_one, not_false_eq_true, if_true]
  have hm : mask (BG cs b R) 0 1 = hid :: hid :: R := rfl
  rw [hm, hd]
  simp only []
  rw [e]
  rfl
theorem coH' {P : Ob → Prop} (hd : dall (dcl (hid :: hid :: R)) r = some ds) (e : ∃ d b', F ds cs b = .obj d b' ∧ P d) (q : ∀ d b', P d → Q (.ref (R.length + 2)) (BH cs b' (R ++ [d]))) : callBG F (.ref 1 :: r) (BH cs b R) Q := by
  obtain ⟨d, b', e, p⟩ := e
  have hr : rdB 1 (BH cs b R) = some (b, 0, cs) := by simp [rdB, bagO]
  refine wp_eq (a := .ref (R.length + 2)) (h := BH cs b' (R ++ [d])) ?_ (q d b' p)
  simp only [hr, ne_eq, Nat.one_ne_zero, not_false_eq_true, if_true]
  have hm : mask (BH cs b R) 1 0 = hid :: hid :: R := rfl
  rw [hm, hd]
  simp only []
  rw [e]
  rfl
theorem coG {P : Ob → Prop} (hn : nors r = true) (e : ∃ d b', F r cs b = .obj d b' ∧ P d) (q : ∀ d b', P d → Q (.ref (R.length + 2)) (BG cs b' (R ++ [d]))) : callBG F (.ref 0 :: r) (BG cs b R) Q := coG' (dall_nor _ r hn) e q
theorem coH {P : Ob → Prop} (hn : nors r = true) (e : ∃ d b', F r cs b = .obj d b' ∧ P d) (q : ∀ d b', P d → Q (.ref (R.length + 2)) (BH cs b' (R ++ [d]))) : callBG F (.ref 1 :: r) (BH cs b R) Q := coH' (dall_nor _ r hn) e q
end
/-! ### defs -/
theorem runP_w {np N : Nat} {fs : FS} {ds : List D} {d : D} (hl : ds.length = np) (hp : d.pur = true) (w : wp (fs (ds.map some ++ List.replicate (N - np) none) []) fun fl _ => fl = .rt d) : noE (runP np N fs ds) = .val d := by
  obtain ⟨fl, h, e, rfl⟩ := w
  unfold runP
  rw [if_pos hl, e]
  simp only [toP, hp, if_true, noE]
theorem runX_w {np N : Nat} {fs : FS} {ds : List D} {d : D} (hl : ds.length = np) (hp : d.pur = true) (w : wp (fs (ds.map some ++ List.replicate (N - np) none) []) fun fl _ => fl = .rt d) : runP np N fs ds = .val d := by
  obtain ⟨fl, h, e, rfl⟩ := w
  unfold runP
  rw [if_pos hl, e]
  simp only [toP, hp, if_true]
theorem runP_o {np N : Nat} {fs : FS} {ds : List D} {o : Ob} (hl : ds.length = np) (hp : o.pur = true) (w : wp (fs (ds.map some ++ List.replicate (N - np) none) []) fun fl h => ∃ n, fl = .rt (.ref n) ∧ h[n]? = some o) : noE (runP np N fs ds) = .obj o := by
  obtain ⟨fl, h, e, n, rfl, q⟩ := w
  unfold runP
  rw [if_pos hl, e]
  simp only [toP, pur_ref, Bool.false_eq_true, if_false, Nat.not_lt_zero, q, hp, if_true, noE]
theorem runB_w {np N : Nat} {fs : FS} {ds : List D} {cs : List Int} {b : Bn} {P : D → Prop} (hl : ds.length + 1 = np) (w : wp (fs ((D.ref 0 :: ds).map some ++ List.replicate (N - np) none) (BG cs b [])) fun fl h => ∃ d b' r, fl = .rt d ∧ h = BG cs b' r ∧ d.pur = true ∧ P d) : ∃ d b', runB np N fs ds cs b = .val d b' ∧ P d := by
  obtain ⟨fl, h, e, d, b', r, rfl, rfl, hp, p⟩ := w
  refine ⟨d, b', ?_, p⟩
  unfold runB
  rw [if_pos hl]
  have e' : fs ((D.ref 0 :: ds).map some ++ List.replicate (N - np) none) [bagO b 1, .lst (cs.map D.int)] = .ok (.rt d) (BG cs b' r) := e
  rw [e']
  simp only [toP, hp, if_true, toB]
  have hr : rdB 0 (BG cs b' r) = some (b', 1, cs) := by simp [rdB, bagO]
  rw [hr]
  simp
theorem runB_o {np N : Nat} {fs : FS} {ds : List D} {cs : List Int} {b : Bn} {P : Ob → Prop} (hl : ds.length + 1 = np) (w : wp (fs ((D.ref 0 :: ds).map some ++ List.replicate (N - np) none) (BG cs b [])) fun fl h => ∃ n o b' r, fl = .rt (.ref (n + 2)) ∧ h = BG cs b' r ∧ r[n]? = some o ∧ o.pur = true ∧ P o) : ∃ d b', runB np N fs ds cs b = .obj d b' ∧ P d := by
  obtain ⟨fl, h, e, n, o, b', r, rfl, rfl, hn, hp, p⟩ := w
  refine ⟨o, b', ?_, p⟩
  unfold runB
  rw [if_pos hl]
  have e' : fs ((D.ref 0 :: ds).map some ++ List.replicate (N - np) none) [bagO b 1, .lst (cs.map D.int)] = .ok (.rt (.ref (n + 2))) (BG cs b' r) := e
  rw [e']
  have hn' : (BG cs b' r)[n + 2]? = some o := hn
  have ht : toP 2 (.ref (n + 2)) (BG cs b' r) = .obj o := by
    unfold toP
    simp only [pur_ref, Bool.false_eq_true, if_false, show ¬ (n + 2 < 2) by omega, hn', hp, if_true]
  have hr : rdB 0 (BG cs b' r) = some (b', 1, cs) := by simp [rdB, bagO]
  simp only [ht, toB, hr, if_true]
/-! ### classes: plain values, lookups -/
class PurC (d : D) : Prop where p : d.pur = true
class PursC (ds : List D) : Prop where p : purs ds = true
class NorC (d : D) : Prop where p : d.nor = true
class NorsC (ds : List D) : Prop where p : nors ds = true
class ObsC (r : Hs) : Prop where p : r.all obNor = true
instance : PurC .non := ⟨rfl⟩
instance {b : Bool} : PurC (.bl b) := ⟨rfl⟩
instance {b : Int} : PurC (.int b) := ⟨rfl⟩
instance {b : List Nat} : PurC (.str b) := ⟨rfl⟩
instance {ds : List D} [i : PursC ds] : PurC (.tup ds) := ⟨by rw [pur_tup]; exact i.p⟩
instance : PursC [] := ⟨rfl⟩
instance {d : D} {ds : List D} [i : PurC d] [j : PursC ds] : PursC (d :: ds) := ⟨by rw [purs_cons, i.p, j.p]; rfl⟩
instance {ds es : List D} [i : PursC ds] [j : PursC es] : PursC (ds ++ es) := ⟨by rw [purs_append, i.p, j.p]; rfl⟩
instance {l : List (List Nat)} : PursC (l.map D.str) := ⟨purs_map_str' l⟩
instance {l : List Int} : PursC (l.map D.int) := ⟨purs_map_int' l⟩
theorem pursC_map {α : Type} {f : α → D} (hf : ∀ x, (f x).pur = true) {l : List α} : PursC (l.map f) := ⟨purs_map hf l⟩
instance (priority := low) {d : D} [i : PurC d] : NorC d := ⟨nor_of_pur d i.p⟩
instance {ds : List D} [i : NorsC ds] : NorC (.lst ds) := ⟨by rw [nor_lst]; exact i.p⟩
instance {ds : List D} [i : NorsC ds] : NorC (.tup ds) := ⟨by rw [nor_tup]; exact i.p⟩
instance (priority := low) {ds : List D} [i : PursC ds] : NorsC ds := ⟨nors_of_purs ds i.p⟩
instance {d : D} {ds : List D} [i : NorC d] [j : NorsC ds] : NorsC (d :: ds) := ⟨by rw [nors_cons, i.p, j.p]; rfl⟩
instance {ds es : List D} [i : NorsC ds] [j : NorsC es] : NorsC (ds ++ es) := ⟨by rw [nors_append, i.p, j.p]; rfl⟩
instance : ObsC [] := ⟨rfl⟩
instance {ds : List D} {r : Hs} [i : NorsC ds] [j : ObsC r] : ObsC (.lst ds :: r) := ⟨by
  rw [List.all_cons, j.p]; show (nors ds && true) = true; rw [i.p]; rfl⟩
instance {r t : Hs} [i : ObsC r] [j : ObsC t] : ObsC (r ++ t) := ⟨by rw [List.all_append, i.p, j.p]; rfl⟩
class Lk (h : Hs) (n : Nat) (o : outParam Ob) : Prop where e : h[n]? = some o
instance {o : Ob} {r : Hs} : Lk (o :: r) 0 o := ⟨rfl⟩
instance {o p : Ob} {r : Hs} {n : Nat} [i : Lk r n o] : Lk (p :: r) (n + 1) o := ⟨by rw [List.getElem?_cons_succ]; exact i.e⟩
instance {o : Ob} {r : Hs} : Lk (r ++ [o]) r.length o := ⟨by rw [List.getElem?_append_right (Nat.le_refl _)]; simp⟩
class Sk (h : Hs) (n : Nat) (o : Ob) (h' : outParam Hs) : Prop where e : h.set n o = h'
instance {o p : Ob} {r : Hs} : Sk (p :: r) 0 o (o :: r) := ⟨rfl⟩
instance {o p : Ob} {r r' : Hs} {n : Nat} [i : Sk r n o r'] : Sk (p :: r) (n + 1) o (p :: r') := ⟨by rw [List.set_cons_succ, i.e]⟩
instance {o p : Ob} {r : Hs} : Sk (r ++ [p]) r.length o (r ++ [o]) := ⟨by rw [List.set_append_right _ _ (Nat.le_refl _)]; simp⟩
class Lf (h : Hs) (x : D) (ds : outParam (List D)) : Prop where e : lof h x = some ds
instance {h : Hs} {ds : List D} : Lf h (.lst ds) ds := ⟨rfl⟩
instance {h : Hs} {n : Nat} {ds : List D} [i : Lk h n (.lst ds)] : Lf h (.ref n) ds := ⟨lof_ref i.e⟩
class Dc (h : Hs) (d : D) (d' : outParam D) : Prop where e : dcl h d = some d'
instance (priority := low) {h : Hs} {d : D} [i : NorC d] : Dc h d d := ⟨dcl_nor i.p⟩
instance {h : Hs} {n : Nat} {ds : List D} [i : Lk h n (.lst ds)] [j : NorsC ds] : Dc h (.ref n) (.lst ds) := ⟨dcl_ref i.e j.p⟩
class Da (h : Hs) (ds : List D) (ds' : outParam (List D)) : Prop where e : dall (dcl h) ds = some ds'
instance {h : Hs} : Da h [] [] := ⟨rfl⟩
instance {h : Hs} {d d' : D} {ds ds' : List D} [i : Dc h d d'] [j : Da h ds ds'] : Da h (d :: ds) (d' :: ds') := ⟨by unfold dall; rw [j.e, i.e]⟩
/-! ### the other steps -/
section
variable {env : En} {h : Hs} {Q : D → Hs → Prop} {QE : En → Hs → Prop} {QF : Fl → Hs → Prop} {QI : Src → Hs → Prop} {fe fo fi' : FE} {ft : FT} {fr : FA} {a b : FS} {fg : FG} {fs : FGs}
instance g_v0 {d : D} {e : En} : Go (wp (fVar 0 (some d :: e) h) Q) (Q d h) := ⟨fun q => wp_ret q⟩
instance g_vS {i : Nat} {o : Option D} {e : En} : Go (wp (fVar (i + 1) (o :: e) h) Q) (wp (fVar i e h) Q) := ⟨fun w => by
  obtain ⟨d, h', e1, q⟩ := w
  refine ⟨d, h', ?_, q⟩
  unfold fVar at e1 ⊢
  rw [List.getElem?_cons_succ]; exact e1⟩
def asLen (xs : List D) (k : Prop) : Prop := xs.length ≤ 16777216 ∧ k
instance g_len0 {k : Prop} : Go (asLen [] k) k := ⟨fun q => ⟨by simp, q⟩⟩
instance g_len1 {x : D} {k : Prop} : Go (asLen [x] k) k := ⟨fun q => ⟨by simp, q⟩⟩
instance g_len2 {x y : D} {k : Prop} : Go (asLen [x, y] k) k := ⟨fun q => ⟨by simp, q⟩⟩
instance g_len3 {x y z : D} {k : Prop} : Go (asLen [x, y, z] k) k := ⟨fun q => ⟨by simp, q⟩⟩
instance g_len4 {x y z u : D} {k : Prop} : Go (asLen [x, y, z, u] k) k := ⟨fun q => ⟨by simp, q⟩⟩
instance g_len5 {x y z u v : D} {k : Prop} : Go (asLen [x, y, z, u, v] k) k := ⟨fun q => ⟨by simp, q⟩⟩
instance g_len6 {x y z u v v6 : D} {k : Prop} : Go (asLen [x, y, z, u, v, v6] k) k := ⟨fun q => ⟨by simp, q⟩⟩
instance g_len7 {x y z u v v6 v7 : D} {k : Prop} : Go (asLen [x, y, z, u, v, v6, v7] k) k := ⟨fun q => ⟨by simp, q⟩⟩
instance g_len8 {x y z u v v6 v7 v8 : D} {k : Prop} : Go (asLen [x, y, z, u, v, v6, v7, v8] k) k := ⟨fun q => ⟨by simp, q⟩⟩
instance g_len9 {x y z u v v6 v7 v8 v9 : D} {k : Prop} : Go (asLen [x, y, z, u, v, v6, v7, v8, v9] k) k := ⟨fun q => ⟨by simp, q⟩⟩
instance g_tup : Go (wp (fTup fr env h) Q) (wp (fr env h) fun xs h1 => asLen xs (Q (.tup xs) h1)) := ⟨fun w => wp_bnd (wp_mono w fun _ _ v => wp_if v.1 (wp_ret v.2))⟩
instance g_lst : Go (wp (fLst fr env h) Q) (wp (fr env h) fun xs h1 => asLen xs (Q (.ref h1.length) (h1 ++ [.lst xs]))) := ⟨fun w => wp_bnd (wp_mono w fun _ _ v => wp_if v.1 (wp_ret v.2))⟩
instance g_gN0 {d : D} {o : Option D} {e : En} : Go (wp (gN 0 d (o :: e) h) QE) (QE (some d :: e) h) := ⟨fun q => wp_ret q⟩
instance g_gNS {i : Nat} {d : D} {o : Option D} {e : En} : Go (wp (gN (i + 1) d (o :: e) h) QE) (wp (gN i d e h) fun e' h' => QE (o :: e') h') := ⟨fun w => by
  obtain ⟨e', h', q1, q⟩ := w
  cases q1
  exact wp_ret q⟩
instance g_gT2 {x y : D} : Go (wp (gT 2 fs (.tup [x, y]) env h) QE) (wp (fs [x, y] env h) QE) := ⟨fun w => w_gT rfl w⟩
instance g_gT3 {x y z : D} : Go (wp (gT 3 fs (.tup [x, y, z]) env h) QE) (wp (fs [x, y, z] env h) QE) := ⟨fun w => w_gT rfl w⟩
def asP (ds : List D) (k : D → D → Prop) : Prop := ∃ x y, ds = [x, y] ∧ k x y
instance g_asP {x y : D} {k : D → D → Prop} : Go (asP [x, y] k) (k x y) := ⟨fun q => ⟨x, y, rfl, q⟩⟩
instance g_par {i j : Nat} : Go (wp (fPar i j fr env h) QF) (wp (fr env h) fun ds h1 => asP ds fun x y => wp (gN i x env h1) fun e h2 => wp (gN j y e h2) fun e' h3 => QF (.nx e') h3) := ⟨fun w => wp_bnd (wp_mono w fun _ _ v => by
  obtain ⟨x, y, rfl, e, h2, e1, e', h3, e2, q⟩ := v
  cases e1
  cases e2
  exact wp_ret q)⟩
instance g_aug {i : Nat} {f : D → D → Hs → R D} : Go (wp (fAug i f fe env h) QF) (wp (fVar i env h) fun x h0 => wp (fe env h) fun y h1 => wp (f x y h1) fun z h2 => wp (gN i z env h2) fun e h3 => QF (.nx e) h3) := ⟨fun w => by
  obtain ⟨x, h0, e, w⟩ := w
  unfold fVar at e
  unfold fAug
  split at e
  · rename_i d e'
    cases e
    exact wp_bnd (wp_mono w fun _ _ v => wp_bnd (wp_mono v fun _ _ u => by
      obtain ⟨e, h3, e1, q⟩ := u
      cases e1
      exact wp_ret q))
  · cases e⟩
def asTy (T : String) (h : Hs) (x : D) (k : Prop) : Prop := tyD T h x = true ∧ k
instance g_asTy {ds : List D} {n : Nat} {k : Prop} [i : Lk h n (.lst ds)] : Go (asTy "list" h (.ref n) k) k := ⟨fun q => ⟨tyD_list i.e, q⟩⟩
instance g_bm {T : String} {f : D → List D → Hs → R D} : Go (wp (fBM T f fo fr env h) Q) (wp (fo env h) fun x h1 => asTy T h1 x (wp (fr env h1) fun xs h2 => wp (f x xs h2) Q)) := ⟨fun w => wp_bnd (wp_mono w fun x h1 v => wp_if v.1 (wp_bnd v.2))⟩
instance g_append {n : Nat} {ds : List D} {d : D} {h' : Hs} [i : Lk h n (.lst ds)] [j : Sk h n (.lst (ds ++ [d])) h'] : Go (wp (appendD (.ref n) [d] h) Q) (ds.length < 16777216 ∧ Q .non h') := ⟨fun q => l_append i.e q.1 (by rw [j.e]; exact q.2)⟩
instance g_extend {n : Nat} {ds es : List D} {d : D} {h' : Hs} [i : Lk h n (.lst ds)] [l : Lf h d es] [j : Sk h n (.lst (ds ++ es)) h'] : Go (wp (extendD (.ref n) [d] h) Q) (ds.length + es.length ≤ 16777216 ∧ Q .non h') := ⟨fun q => l_extend i.e l.e q.1 (by rw [j.e]; exact q.2)⟩
instance g_pop {n : Nat} {ds : List D} {d : D} {h' : Hs} [i : Lk h n (.lst (ds ++ [d]))] [j : Sk h n (.lst ds) h'] : Go (wp (popD (.ref n) [] h) Q) (Q d h') := ⟨fun q => l_pop i.e (by rw [j.e]; exact q)⟩
theorem at_lit {α : Type} (xs : List α) (k : Nat) {a : α} (e : xs[k]? = some a) : atI xs (k : Int) = some a := by rw [atI_nat]; exact e
instance g_ix0 {a : D} {r : List D} : Go (wp (ixD (.tup (a :: r)) (.int 0) h) Q) (Q a h) := ⟨fun q => l_ixT (at_lit _ 0 rfl) q⟩
instance g_ix1 {a b : D} {r : List D} : Go (wp (ixD (.tup (a :: b :: r)) (.int 1) h) Q) (Q b h) := ⟨fun q => l_ixT (at_lit _ 1 rfl) q⟩
instance g_ix2 {a b c : D} {r : List D} : Go (wp (ixD (.tup (a :: b :: c :: r)) (.int 2) h) Q) (Q c h) := ⟨fun q => l_ixT (at_lit _ 2 rfl) q⟩
instance g_ix3 {a b c d : D} {r : List D} : Go (wp (ixD (.tup (a :: b :: c :: d :: r)) (.int 3) h) Q) (Q d h) := ⟨fun q => l_ixT (at_lit _ 3 rfl) q⟩
instance g_ix4 {a b c d e : D} {r : List D} : Go (wp (ixD (.tup (a :: b :: c :: d :: e :: r)) (.int 4) h) Q) (Q e h) := ⟨fun q => l_ixT (at_lit _ 4 rfl) q⟩
instance g_il0 {a : D} {r : List D} : Go (wp (ixD (.lst (a :: r)) (.int 0) h) Q) (Q a h) := ⟨fun q => l_ixL (at_lit _ 0 rfl) q⟩
instance g_il1 {a b : D} {r : List D} : Go (wp (ixD (.lst (a :: b :: r)) (.int 1) h) Q) (Q b h) := ⟨fun q => l_ixL (at_lit _ 1 rfl) q⟩
def asAt {α : Type} (o : Option α) (k : α → Prop) : Prop := ∃ a, o = some a ∧ k a
theorem asAt_i {α : Type} {o : Option α} {a : α} {k : α → Prop} (e : o = some a) (q : k a) : asAt o k := ⟨a, e, q⟩
instance (priority := low) g_ixT {ds : List D} {i : Int} : Go (wp (ixD (.tup ds) (.int i) h) Q) (asAt (atI ds i) fun d => Q d h) := ⟨fun q => by
  obtain ⟨d, e, q⟩ := q
  exact l_ixT e q⟩
instance (priority := low) g_ixL {ds : List D} {i : Int} : Go (wp (ixD (.lst ds) (.int i) h) Q) (asAt (atI ds i) fun d => Q d h) := ⟨fun q => by
  obtain ⟨d, e, q⟩ := q
  exact l_ixL e q⟩
instance (priority := low) g_ixR {ds : List D} {n : Nat} {i : Int} [l : Lk h n (.lst ds)] : Go (wp (ixD (.ref n) (.int i) h) Q) (asAt (atI ds i) fun d => Q d h) := ⟨fun q => by
  obtain ⟨d, e, q⟩ := q
  exact l_ixR l.e e q⟩
instance g_ixAr {n : Nat} {ds : List D} {y : D} [i : Lk h n (.lst ds)] : Go (wp (ixA (.ref n) y h) Q) (wp (ixD (.ref n) y h) Q) := ⟨fun w => by
  have e : dof h (.ref n) = none := by unfold dof; simp only []; rw [i.e]
  unfold ixA; rw [e]; exact w⟩
instance g_ixAd {ks ws : List D} {s : List Nat} : Go (wp (ixA (.dct ks ws) (.str s) h) Q) (asAt (getK (ks.zip ws) (.str s)) fun d => Q d h) := ⟨fun q => by
  obtain ⟨d, e, q⟩ := q
  exact l_ixAD rfl rfl e q⟩
instance g_ixAk {n : Nat} {kvs : List (D × D)} {s : List Nat} [i : Lk h n (.dct kvs)] : Go (wp (ixA (.ref n) (.str s) h) Q) (asAt (getK kvs (.str s)) fun d => Q d h) := ⟨fun q => by
  obtain ⟨d, e, q⟩ := q
  exact l_ixAR (by unfold dof; simp only []; rw [i.e]) rfl e q⟩
instance g_lenR {n : Nat} {ds : List D} [i : Lk h n (.lst ds)] : Go (wp (lenD [.ref n] h) Q) (Q (.int ds.length) h) := ⟨fun q => l_lenR i.e q⟩
instance g_tupR {n : Nat} {ds : List D} [i : Lk h n (.lst ds)] : Go (wp (tupleD [.ref n] h) Q) (Q (.tup ds) h) := ⟨fun q => l_tupR i.e q⟩
instance g_listR {n : Nat} {ds : List D} [i : Lk h n (.lst ds)] : Go (wp (listD [.ref n] h) Q) (Q (.ref h.length) (h ++ [.lst ds])) := ⟨fun q => l_listR i.e q⟩
instance g_revR {n : Nat} {ds : List D} [i : Lk h n (.lst ds)] : Go (wp (revD (.ref n) h) Q) (Q (.ref h.length) (h ++ [.lst ds.reverse])) := ⟨fun q => l_revR i.e q⟩
instance g_slR {n : Nat} {s : List D} {lo hi : Option Int} [i : Lk h n (.lst s)] : Go (wp (slD (.ref n) lo hi h) Q) (Q (.ref h.length) (h ++ [.lst (cutL s lo hi)])) := ⟨fun q => l_slR i.e q⟩
instance g_slL {s : List D} {lo hi : Option Int} : Go (wp (slD (.lst s) lo hi h) Q) (Q (.ref h.length) (h ++ [.lst (cutL s lo hi)])) := ⟨fun q => wp_ret q⟩
instance g_addS {s t : List Nat} : Go (wp (addD (.str s) (.str t) h) Q) (s.length + t.length ≤ 16777216 ∧ Q (.str (s ++ t)) h) := ⟨fun q => wp_if q.1 (wp_ret q.2)⟩
instance g_iaddS {s t : List Nat} : Go (wp (iaddD (.str s) (.str t) h) Q) (s.length + t.length ≤ 16777216 ∧ Q (.str (s ++ t)) h) := ⟨fun q => wp_if q.1 (wp_ret q.2)⟩
instance g_addT {s t : List D} : Go (wp (addD (.tup s) (.tup t) h) Q) (s.length + t.length ≤ 16777216 ∧ Q (.tup (s ++ t)) h) := ⟨fun q => wp_if q.1 (wp_ret q.2)⟩
instance (priority := low) g_addL {x y : D} {s t : List D} [i : Lf h x s] [j : Lf h y t] : Go (wp (addD x y h) Q) (s.length + t.length ≤ 16777216 ∧ Q (.ref h.length) (h ++ [.lst (s ++ t)])) := ⟨fun q => l_addL i.e j.e q.1 q.2⟩
instance (priority := low) g_eqN {x y : D} [i : NorC x] [j : NorC y] : Go (wp (eqD x y h) Q) ((dpt x ≤ 60 ∧ dpt y ≤ 60) ∧ Q (.bl (deq x y)) h) := ⟨fun q => wp_eq (eqD_nor i.p j.p q.1.1 q.1.2) q.2⟩
instance (priority := low) g_neN {x y : D} [i : NorC x] [j : NorC y] : Go (wp (neD x y h) Q) ((dpt x ≤ 60 ∧ dpt y ≤ 60) ∧ Q (.bl (!deq x y)) h) := ⟨fun q => wp_eq (neD_nor i.p j.p q.1.1 q.1.2) q.2⟩
instance g_star {QA : List D → Hs → Prop} : Go (wp (fStar fe fr env h) QA) (wp (fe env h) fun x h1 => asAt (sqof h1 x) fun ds => wp (fr env h1) fun ys h2 => QA (ds ++ ys) h2) := ⟨fun w => wp_bnd (wp_mono w fun x h1 v => by
  obtain ⟨ds, e, v⟩ := v
  rw [e]
  exact wp_bnd (wp_mono v fun _ _ q => wp_ret q))⟩
instance g_sqT {ds : List D} {k : List D → Prop} : Go (asAt (sqof h (.tup ds)) k) (k ds) := ⟨fun q => ⟨ds, rfl, q⟩⟩
/-! sources -/
def asSrc (h : Hs) (x : D) (k : Src → Prop) : Prop := ∃ s, srcOf h x = some s ∧ k s
instance g_srcT {ds : List D} {k : Src → Prop} : Go (asSrc h (.tup ds) k) (k ⟨ds, []⟩) := ⟨fun q => ⟨_, rfl, q⟩⟩
instance g_srcL {ds : List D} {k : Src → Prop} : Go (asSrc h (.lst ds) k) (k ⟨ds, []⟩) := ⟨fun q => ⟨_, rfl, q⟩⟩
instance g_srcS {s : List Nat} {k : Src → Prop} : Go (asSrc h (.str s) k) (k ⟨s.map fun c => .str [c], []⟩) := ⟨fun q => ⟨_, rfl, q⟩⟩
instance g_srcR {n : Nat} {ds : List D} {k : Src → Prop} [i : Lk h n (.lst ds)] : Go (asSrc h (.ref n) k) (k ⟨ds, [(n, ds)]⟩) := ⟨fun q => ⟨_, by unfold srcOf; simp only []; rw [i.e], q⟩⟩
instance g_iter : Go (wp (fIter fe env h) QI) (wp (fe env h) fun x h1 => asSrc h1 x fun s => QI s h1) := ⟨fun w => wp_bnd (wp_mono w fun x h1 v => by
  obtain ⟨s, e, q⟩ := v
  rw [e]; exact wp_ret q)⟩
def asBs (h : Hs) (x : D) (k : Src → Prop) : Prop := ∃ s, bs h x = some s ∧ k s
instance g_bsT {ds : List D} {k : Src → Prop} : Go (asBs h (.tup ds) k) (k ⟨ds, []⟩) := ⟨fun q => ⟨_, rfl, q⟩⟩
instance g_bsL {ds : List D} {k : Src → Prop} : Go (asBs h (.lst ds) k) (k ⟨ds, []⟩) := ⟨fun q => ⟨_, rfl, q⟩⟩
instance g_bsR {n : Nat} {ds : List D} {k : Src → Prop} [i : Lk h n (.lst ds)] : Go (asBs h (.ref n) k) (k ⟨ds, [(n, ds)]⟩) := ⟨fun q => ⟨_, by unfold bs; simp only []; rw [i.e], q⟩⟩
def as1 (xs : List D) (k : D → Prop) : Prop := ∃ x, xs = [x] ∧ k x
instance g_as1 {x : D} {k : D → Prop} : Go (as1 [x] k) (k x) := ⟨fun q => ⟨_, rfl, q⟩⟩
instance g_enum : Go (wp (fEnum fr env h) QI) (wp (fr env h) fun xs h1 => as1 xs fun x => asBs h1 x fun s => QI ⟨enumL 0 s.items, s.gd⟩ h1) := ⟨fun w => wp_bnd (wp_mono w fun x h1 v => by
  obtain ⟨y, rfl, s, e, q⟩ := v
  simp only [e]; exact wp_ret q)⟩
instance g_zip : Go (wp (fZip fr env h) QI) (wp (fr env h) fun xs h1 => asP xs fun x y => asBs h1 x fun s => asBs h1 y fun t => x.isTup = y.isTup ∧ QI ⟨zipT s.items t.items, s.gd ++ t.gd⟩ h1) := ⟨fun w => wp_bnd (wp_mono w fun x h1 v => by
  obtain ⟨x, y, rfl, s, e, t, e', e0, q⟩ := v
  simp only [e, e', e0, if_true]; exact wp_ret q)⟩
def asN (xs : List D) (k : Nat → Prop) : Prop := ∃ n : Nat, xs = [.int n] ∧ n < 4611686018427387904 ∧ k n
theorem asN_i {x : Int} {n : Nat} {k : Nat → Prop} (e : x = n) (hn : n < 4611686018427387904) (q : k n) : asN [.int x] k := ⟨n, by rw [e], hn, q⟩
instance g_asN {n : Nat} {k : Nat → Prop} : Go (asN [.int (OfNat.ofNat n)] k) (n < 4611686018427387904 ∧ k n) := ⟨fun q => ⟨n, rfl, q.1, q.2⟩⟩
instance g_asN' {n : Nat} {k : Nat → Prop} : Go (asN [.int (n : Int)] k) (n < 4611686018427387904 ∧ k n) := ⟨fun q => ⟨n, rfl, q.1, q.2⟩⟩
instance g_rng1 : Go (wp (fRng1 fr env h) QI) (wp (fr env h) fun xs h1 => asN xs fun n => QI ⟨rangeL 0 n, []⟩ h1) := ⟨fun w => wp_bnd (wp_mono w fun x h1 v => by
  obtain ⟨n, rfl, e, q⟩ := v
  simp only []
  rw [if_pos (by simpa using e)]
  exact wp_ret q)⟩
instance g_m1 {f : D → List D → Hs → R D} {s : List Nat} : Go (wp (fM1 f (fC (.str s)) fe env h) Q) (wp (fe env h) fun y h2 => wp (f (.str s) [y] h2) Q) := ⟨fun w => wp_bnd (wp_ret (wp_bnd w))⟩
class Sq (h : Hs) (x : D) (ds : outParam (List D)) : Prop where e : seqOf h x = some ds
instance {ds : List D} : Sq h (.tup ds) ds := ⟨rfl⟩
instance {ds : List D} : Sq h (.lst ds) ds := ⟨rfl⟩
instance g_joinM {sep : List Nat} {y : D} {l : List (List Nat)} [i : Sq h y (l.map D.str)] : Go (wp (joinD (.str sep) [y] h) Q) (lenSum l + l.length * sep.length ≤ 16777216 ∧ Q (.str (joinL sep l)) h) := ⟨fun q => l_join i.e (txts_map l) q.1 q.2⟩
def asTyN (o : Option String) (k : String → Prop) : Prop := ∃ t, o = some t ∧ k t
instance g_isi {ts : List String} : Go (wp (fIsi fe ts env h) Q) (wp (fe env h) fun x h1 => asTyN (tyN h1 x) fun t => Q (.bl (ts.any fun b => subT t b)) h1) := ⟨fun w => wp_bnd (wp_mono w fun x h1 v => by
  obtain ⟨t, e, q⟩ := v
  rw [e]
  exact wp_ret q)⟩
class Tw (h : Hs) (x y : D) (a b : outParam (List D)) : Prop where e : two h x y = some (a, b)
instance {a b : List D} : Tw h (.tup a) (.tup b) a b := ⟨rfl⟩
instance g_dz : Go (wp (fDZ fr env h) Q) (wp (fr env h) fun xs h1 => asP xs fun x y => ∃ a b, two h1 x y = some (a, b) ∧ a.length = b.length ∧ (a.all fun d => (keyOf d).isSome) = true ∧ Q (.ref h1.length) (h1 ++ [.dct (zipK a b)])) := ⟨fun w => wp_bnd (wp_mono w fun xs h1 v => by
  obtain ⟨x, y, rfl, a, b, e, hl, hk, q⟩ := v
  simp only [e]
  have e1 : a.take (min a.length b.length) = a := List.take_of_length_le (by omega)
  have e2 : b.take (min a.length b.length) = b := List.take_of_length_le (by omega)
  simp only [e1, e2]
  rw [if_pos hk]
  exact wp_ret q)⟩
/-! temporaries, values: in any heap -/
instance (priority := low) g_tid {d : D} [i : PurC d] : Go (wp (tmpR h (.ok d h)) Q) (Q d h) := ⟨fun q => wp_eq (tmpR_id i.p) q⟩
instance (priority := low) g_tno {d : D} [i : NorC d] : Go (wp (tmpR h (.ok d h)) Q) (Q d h) := ⟨fun q => wp_eq (tmp_nor i.p) q⟩
instance (priority := low) g_vno {d : D} [i : NorC d] : Go (wp (valR h (.ok d h)) Q) (Q d h) := ⟨fun q => wp_eq (val_nor i.p) q⟩
instance (priority := low) g_v0w {ds : List D} [i : NorsC ds] [j : ObsC h] : Go (wp (valR h (.ok (.ref h.length) (h ++ [.lst ds]))) Q) (Q (.lst ds) h) := ⟨fun q => wp_eq (frm_0.new' (b := ⟨0, 0, 0⟩) (b' := ⟨0, 0, 0⟩) i.p j.p rfl) q⟩
end
theorem Frm.tmpN {m : Nat} {fr : Bn → Hs → Hs} (F : Frm m fr) {b b' : Bn} {r : Hs} {ds : List D} {n : Nat} (hn : r.all obNor = true) (hd : nors ds = true) (e : n = r.length + m) : tmpR (fr b r) (.ok (.ref n) (fr b' r ++ [.lst ds])) = .ok (.ref n) (fr b' (r ++ [.lst ds])) := by
  have e1 : (fr b' r ++ [Ob.lst ds]).take (fr b r).length = fr b' r := by rw [show (fr b r).length = (fr b' r).length by rw [F.len, F.len], List.take_left]
  have e2 := F.bel (fr b r).length b' r (by rw [F.len]; omega) (nor_bel _ hn)
  have e3 : (fr b' r ++ [Ob.lst ds])[n]? = some (.lst ds) := by rw [List.getElem?_append_right (by rw [F.len]; omega), F.len]; subst e; simp
  have e4 : ¬ (n < (fr b r).length) := by rw [F.len]; omega
  have e5 : belO (fr b r).length (.lst ds) = true := bels_nors _ ds hd
  have e6 : (fr b r).length = n := by rw [F.len]; omega
  unfold tmpR
  simp only [e1, e2, if_true, pur_ref, Bool.false_eq_true, if_false, e4, e3, e5]
  rw [e6, F.app]
class Sz (m : Nat) (r : Hs) (n : outParam Nat) : Prop where e : r.length + m = n
instance : Sz 0 [] 0 := ⟨rfl⟩
instance {o0 : Ob} : Sz 0 [o0] 1 := ⟨rfl⟩
instance {o0 o1 : Ob} : Sz 0 [o0, o1] 2 := ⟨rfl⟩
instance {o0 o1 o2 : Ob} : Sz 0 [o0, o1, o2] 3 := ⟨rfl⟩
instance {o0 o1 o2 o3 : Ob} : Sz 0 [o0, o1, o2, o3] 4 := ⟨rfl⟩
instance {o0 o1 o2 o3 o4 : Ob} : Sz 0 [o0, o1, o2, o3, o4] 5 := ⟨rfl⟩
instance : Sz 2 [] 2 := ⟨rfl⟩
instance {o0 : Ob} : Sz 2 [o0] 3 := ⟨rfl⟩
instance {o0 o1 : Ob} : Sz 2 [o0, o1] 4 := ⟨rfl⟩
instance {o0 o1 o2 : Ob} : Sz 2 [o0, o1, o2] 5 := ⟨rfl⟩
instance {o0 o1 o2 o3 : Ob} : Sz 2 [o0, o1, o2, o3] 6 := ⟨rfl⟩
instance {o0 o1 o2 o3 o4 : Ob} : Sz 2 [o0, o1, o2, o3, o4] 7 := ⟨rfl⟩
instance : Sz 3 [] 3 := ⟨rfl⟩
instance {o0 : Ob} : Sz 3 [o0] 4 := ⟨rfl⟩
instance {o0 o1 : Ob} : Sz 3 [o0, o1] 5 := ⟨rfl⟩
instance {o0 o1 o2 : Ob} : Sz 3 [o0, o1, o2] 6 := ⟨rfl⟩
instance {o0 o1 o2 o3 : Ob} : Sz 3 [o0, o1, o2, o3] 7 := ⟨rfl⟩
instance {o0 o1 o2 o3 o4 : Ob} : Sz 3 [o0, o1, o2, o3, o4] 8 := ⟨rfl⟩
instance (priority := low) {m : Nat} {r : Hs} : Sz m r (r.length + m) := ⟨rfl⟩
class Ap (r : Hs) (o : Ob) (r' : outParam Hs) : Prop where e : r ++ [o] = r'
instance {o : Ob} : Ap [] o [o] := ⟨rfl⟩
instance {o p : Ob} {r r' : Hs} [i : Ap r o r'] : Ap (p :: r) o (p :: r') := ⟨by rw [List.cons_append, i.e]⟩
instance (priority := low) {r : Hs} {o : Ob} : Ap r o (r ++ [o]) := ⟨rfl⟩
section
variable {cs : List Int} {b b' : Bn} {r r' : Hs} {Q : D → Hs → Prop} {QB : Bool → Hs → Prop} {d : D} {ds : List D} {t : Bool} {n : Nat}
instance fBG_t [i : PurC d] [j : ObsC r] : Go (wp (tmpR (BG cs b r) (.ok d (BG cs b' r))) Q) (Q d (BG cs b' r)) := ⟨fun q => wp_eq ((frm_BG cs).tmp' i.p j.p) q⟩
instance fBG_b [j : ObsC r] : Go (wp (PF.tmpB (BG cs b r) (.ok t (BG cs b' r))) QB) (QB t (BG cs b' r)) := ⟨fun q => wp_eq ((frm_BG cs).tmpB' j.p) q⟩
instance fBG_v [i : NorC d] [j : ObsC r] : Go (wp (valR (BG cs b r) (.ok d (BG cs b' r))) Q) (Q d (BG cs b' r)) := ⟨fun q => wp_eq ((frm_BG cs).val' i.p j.p) q⟩
instance fBG_n [k : Sz 2 r n] [a : Ap r (.lst ds) r'] [i : NorsC ds] [j : ObsC r] : Go (wp (tmpR (BG cs b r) (.ok (.ref (BG cs b' r).length) (BG cs b' r ++ [.lst ds]))) Q) (Q (.ref n) (BG cs b' r')) := ⟨fun q => wp_eq ((frm_BG cs).tmpN j.p i.p (by rw [(frm_BG cs).len])) (by rw [(frm_BG cs).len, k.e, a.e]; exact q)⟩
instance fBG_w [i : NorsC ds] [j : ObsC r] : Go (wp (valR (BG cs b r) (.ok (.ref (BG cs b' r).length) (BG cs b' r ++ [.lst ds]))) Q) (Q (.lst ds) (BG cs b' r)) := ⟨fun q => wp_eq ((frm_BG cs).new' i.p j.p (by rw [(frm_BG cs).len])) q⟩
instance fBG_o [k : Sz 2 r n] [a : Ap r (.lst ds) r'] [i : NorsC ds] [j : ObsC r] : Go (wp (tmpR (BG cs b r) (.ok (.ref (r.length + 2)) (BG cs b' (r ++ [.lst ds])))) Q) (Q (.ref n) (BG cs b' r')) := ⟨fun q => wp_eq ((frm_BG cs).tmpN j.p i.p rfl) (by rw [k.e, a.e]; exact q)⟩
instance fBG_x [i : NorsC ds] [j : ObsC r] : Go (wp (valR (BG cs b r) (.ok (.ref (r.length + 2)) (BG cs b' (r ++ [.lst ds])))) Q) (Q (.lst ds) (BG cs b' r)) := ⟨fun q => wp_eq ((frm_BG cs).new' i.p j.p rfl) q⟩
instance fBH_t [i : PurC d] [j : ObsC r] : Go (wp (tmpR (BH cs b r) (.ok d (BH cs b' r))) Q) (Q d (BH cs b' r)) := ⟨fun q => wp_eq ((frm_BH cs).tmp' i.p j.p) q⟩
instance fBH_b [j : ObsC r] : Go (wp (PF.tmpB (BH cs b r) (.ok t (BH cs b' r))) QB) (QB t (BH cs b' r)) := ⟨fun q => wp_eq ((frm_BH cs).tmpB' j.p) q⟩
instance fBH_v [i : NorC d] [j : ObsC r] : Go (wp (valR (BH cs b r) (.ok d (BH cs b' r))) Q) (Q d (BH cs b' r)) := ⟨fun q => wp_eq ((frm_BH cs).val' i.p j.p) q⟩
instance fBH_n [k : Sz 2 r n] [a : Ap r (.lst ds) r'] [i : NorsC ds] [j : ObsC r] : Go (wp (tmpR (BH cs b r) (.ok (.ref (BH cs b' r).length) (BH cs b' r ++ [.lst ds]))) Q) (Q (.ref n) (BH cs b' r')) := ⟨fun q => wp_eq ((frm_BH cs).tmpN j.p i.p (by rw [(frm_BH cs).len])) (by rw [(frm_BH cs).len, k.e, a.e]; exact q)⟩
instance fBH_w [i : NorsC ds] [j : ObsC r] : Go (wp (valR (BH cs b r) (.ok (.ref (BH cs b' r).length) (BH cs b' r ++ [.lst ds]))) Q) (Q (.lst ds) (BH cs b' r)) := ⟨fun q => wp_eq ((frm_BH cs).new' i.p j.p (by rw [(frm_BH cs).len])) q⟩
instance fBH_o [k : Sz 2 r n] [a : Ap r (.lst ds) r'] [i : NorsC ds] [j : ObsC r] : Go (wp (tmpR (BH cs b r) (.ok (.ref (r.length + 2)) (BH cs b' (r ++ [.lst ds])))) Q) (Q (.ref n) (BH cs b' r')) := ⟨fun q => wp_eq ((frm_BH cs).tmpN j.p i.p rfl) (by rw [k.e, a.e]; exact q)⟩
instance fBH_x [i : NorsC ds] [j : ObsC r] : Go (wp (valR (BH cs b r) (.ok (.ref (r.length + 2)) (BH cs b' (r ++ [.lst ds])))) Q) (Q (.lst ds) (BH cs b' r)) := ⟨fun q => wp_eq ((frm_BH cs).new' i.p j.p rfl) q⟩
instance fBT_t [i : PurC d] [j : ObsC r] : Go (wp (tmpR (BT cs b r) (.ok d (BT cs b' r))) Q) (Q d (BT cs b' r)) := ⟨fun q => wp_eq ((frm_BT cs).tmp' i.p j.p) q⟩
instance fBT_b [j : ObsC r] : Go (wp (PF.tmpB (BT cs b r) (.ok t (BT cs b' r))) QB) (QB t (BT cs b' r)) := ⟨fun q => wp_eq ((frm_BT cs).tmpB' j.p) q⟩
instance fBT_v [i : NorC d] [j : ObsC r] : Go (wp (valR (BT cs b r) (.ok d (BT cs b' r))) Q) (Q d (BT cs b' r)) := ⟨fun q => wp_eq ((frm_BT cs).val' i.p j.p) q⟩
instance fBT_n [k : Sz 3 r n] [a : Ap r (.lst ds) r'] [i : NorsC ds] [j : ObsC r] : Go (wp (tmpR (BT cs b r) (.ok (.ref (BT cs b' r).length) (BT cs b' r ++ [.lst ds]))) Q) (Q (.ref n) (BT cs b' r')) := ⟨fun q => wp_eq ((frm_BT cs).tmpN j.p i.p (by rw [(frm_BT cs).len])) (by rw [(frm_BT cs).len, k.e, a.e]; exact q)⟩
instance fBT_w [i : NorsC ds] [j : ObsC r] : Go (wp (valR (BT cs b r) (.ok (.ref (BT cs b' r).length) (BT cs b' r ++ [.lst ds]))) Q) (Q (.lst ds) (BT cs b' r)) := ⟨fun q => wp_eq ((frm_BT cs).new' i.p j.p (by rw [(frm_BT cs).len])) q⟩
instance fBT_o [k : Sz 3 r n] [a : Ap r (.lst ds) r'] [i : NorsC ds] [j : ObsC r] : Go (wp (tmpR (BT cs b r) (.ok (.ref (r.length + 3)) (BT cs b' (r ++ [.lst ds])))) Q) (Q (.ref n) (BT cs b' r')) := ⟨fun q => wp_eq ((frm_BT cs).tmpN j.p i.p rfl) (by rw [k.e, a.e]; exact q)⟩
instance fBT_x [i : NorsC ds] [j : ObsC r] : Go (wp (valR (BT cs b r) (.ok (.ref (r.length + 3)) (BT cs b' (r ++ [.lst ds])))) Q) (Q (.lst ds) (BT cs b' r)) := ⟨fun q => wp_eq ((frm_BT cs).new' i.p j.p rfl) q⟩
end
section
variable {h h' : Hs} {Q : D → Hs → Prop}
instance (priority := low) g_tnew {o : Ob} {n : Nat} [k : Sz 0 h n] [a : Ap h o h'] : Go (wp (tmpR h (.ok (.ref h.length) (h ++ [o]))) Q) (Q (.ref n) h') := ⟨fun q => wp_eq (tmp_new h o) (by rw [← k.e, a.e] at *; exact q)⟩
theorem v_dct {kvs : List (D × D)} (hk : (kvs.all fun p => (keyOf p.1).isSome) = true) (hv : nors (kvs.map Prod.snd) = true) [j : ObsC h] (q : Q (.dct (kvs.map Prod.fst) (kvs.map Prod.snd)) h) : wp (valR h (.ok (.ref h.length) (h ++ [.dct kvs]))) Q := by
  refine wp_eq ?_ q
  have e1 : (h ++ [Ob.dct kvs]).take h.length = h := List.take_left
  have e2 : h.all (belO h.length) = true := nor_bel _ j.p
  have e3 : (maskH h.length (h ++ [Ob.dct kvs]))[h.length]? = some (.dct kvs) := by
    unfold maskH
    rw [List.drop_left, List.getElem?_append_right (by simp), List.length_replicate]; simp
  unfold valR
  dsimp only
  rw [e1, if_pos e2]
  unfold dcl
  simp only []
  rw [e3]
  simp only []
  rw [if_pos ⟨hv, hk⟩]
end
/-! ### calls, by what they give -/
def evG (r : RP) (h : Hs) (Q : D → Hs → Prop) : Prop := match r with
  | .val d => Q d h
  | .obj o => Q (.ref h.length) (h ++ [o])
  | _ => False
theorem ev_val {r : RP} {h : Hs} {Q : D → Hs → Prop} {d : D} (e : r = .val d) (q : Q d h) : evG r h Q := by rw [e]; exact q
theorem ev_obj {r : RP} {h : Hs} {Q : D → Hs → Prop} {o : Ob} (e : r = .obj o) (q : Q (.ref h.length) (h ++ [o])) : evG r h Q := by rw [e]; exact q
instance g_callG {F : List D → RP} {ds ds' : List D} {h : Hs} {Q : D → Hs → Prop} [i : Da h ds ds'] : Go (callG F ds h Q) (evG (F ds') h Q) := ⟨fun q => by
  unfold callG; rw [i.e]; simp only []
  unfold evG at q
  cases e : F ds' with
  | val d => rw [e] at q; exact wp_ret q
  | obj o => rw [e] at q; exact wp_ret q
  | er x => rw [e] at q; exact q.elim
  | no => rw [e] at q; exact q.elim⟩
instance g_callXG {F : List D → RP} {env : En} {ds ds' : List D} {h : Hs} {Q : D → Hs → Prop} [i : Da h ds ds'] : Go (callXG F env ds h Q) (evG (F ds') h Q) := ⟨fun q => by
  unfold callXG; rw [i.e]; simp only []
  unfold evG at q
  cases e : F ds' with
  | val d => rw [e] at q; exact wp_ret q
  | obj o => rw [e] at q; exact wp_ret q
  | er x => rw [e] at q; exact q.elim
  | no => rw [e] at q; exact q.elim⟩
def evB (r : RB) (Q : D → Bn → Prop) (QO : Ob → Bn → Prop) : Prop := match r with
  | .val d b => Q d b
  | .obj o b => QO o b
  | .no => False
theorem evB_val {r : RB} {Q : D → Bn → Prop} {QO : Ob → Bn → Prop} {P : D → Prop} (e : ∃ d b', r = .val d b' ∧ P d) (q : ∀ d b', P d → Q d b') : evB r Q QO := by
  obtain ⟨d, b', e, p⟩ := e
  rw [e]; exact q d b' p
theorem evB_obj {r : RB} {Q : D → Bn → Prop} {QO : Ob → Bn → Prop} {P : Ob → Prop} (e : ∃ d b', r = .obj d b' ∧ P d) (q : ∀ d b', P d → QO d b') : evB r Q QO := by
  obtain ⟨d, b', e, p⟩ := e
  rw [e]; exact q d b' p
section
variable {F : List D → List Int → Bn → RB} {xs ds : List D} {cs : List Int} {b : Bn} {R : Hs} {Q : D → Hs → Prop}
instance g_callBGBG [i : Da (hid :: hid :: R) xs ds] : Go (callBG F (.ref 0 :: xs) (BG cs b R) Q) (evB (F ds cs b) (fun d b' => Q d (BG cs b' R)) fun o b' => Q (.ref (R.length + 2)) (BG cs b' (R ++ [o]))) := ⟨fun q => by
  have hr : rdB 0 (BG cs b R) = some (b, 1, cs) := by simp [rdB, bagO]
  have hm : mask (BG cs b R) 0 1 = hid :: hid :: R := rfl
  unfold callBG
  simp only [hr]
  rw [if_pos (by decide), hm, i.e]
  simp only []
  unfold evB at q
  cases e : F ds cs b with
  | val d b' => rw [e] at q; exact wp_ret q
  | obj o b' => rw [e] at q; exact wp_ret q
  | no => rw [e] at q; exact q.elim⟩
instance g_callBGBH [i : Da (hid :: hid :: R) xs ds] : Go (callBG F (.ref 1 :: xs) (BH cs b R) Q) (evB (F ds cs b) (fun d b' => Q d (BH cs b' R)) fun o b' => Q (.ref (R.length + 2)) (BH cs b' (R ++ [o]))) := ⟨fun q => by
  have hr : rdB 1 (BH cs b R) = some (b, 0, cs) := by simp [rdB, bagO]
  have hm : mask (BH cs b R) 1 0 = hid :: hid :: R := rfl
  unfold callBG
  simp only [hr]
  rw [if_pos (by decide), hm, i.e]
  simp only []
  unfold evB at q
  cases e : F ds cs b with
  | val d b' => rw [e] at q; exact wp_ret q
  | obj o b' => rw [e] at q; exact wp_ret q
  | no => rw [e] at q; exact q.elim⟩
instance g_callBGBT [i : Da (Ob.tb :: hid :: hid :: R) xs ds] : Go (callBG F (.ref 2 :: xs) (BT cs b R) Q) (evB (F ds cs b) (fun d b' => Q d (BT cs b' R)) fun o b' => Q (.ref (R.length + 3)) (BT cs b' (R ++ [o]))) := ⟨fun q => by
  have hr : rdB 2 (BT cs b R) = some (b, 1, cs) := by simp [rdB, bagO]
  have hm : mask (BT cs b R) 2 1 = Ob.tb :: hid :: hid :: R := rfl
  unfold callBG
  simp only [hr]
  rw [if_pos (by decide), hm, i.e]
  simp only []
  unfold evB at q
  cases e : F ds cs b with
  | val d b' => rw [e] at q; exact wp_ret q
  | obj o b' => rw [e] at q; exact wp_ret q
  | no => rw [e] at q; exact q.elim⟩
end
end PF
/-! ### a call whose body runs in the caller's own heap: what is handed and what comes back may be any object -/
namespace PF
open PySem PySem.Spec PyProof.Rows L2
def retR (r : R Fl) : R D := match r with
  | .ok (.rt d) h => .ok d h
  | .ok (.nx _) h => .ok .non h
  | _ => .no
def SpIn (g : G) (np N : Nat) (fs : FS) : Sp := fun vs H Q E => ∃ (H0 : Hp) (sp ι : List Addr) (h : Hs) (ds : List D), Rel g.K H0 sp ι h H ∧ VRs g.K ι H ds vs ∧ ds.length = np ∧
  WP g H0 sp W0 ι H (retR (fs (ds.map some ++ List.replicate (N - np) none) h)) fun d _ ι' H' => ∀ v, VR g.K ι' H' d v → Q v H'
def fCallI (np N : Nat) (fs : FS) (fa : FA) : FE := fun env h => (fa env h).bnd fun ds h1 => if ds.length = np then retR (fs (ds.map some ++ List.replicate (N - np) none) h1) else .no
theorem def_okI {P : Program} {w : World} {g : G} {mg : Str → Option Value} {base : Heap} {x qual : Str} {st : Stmt} {f : Addr} {fd : FuncData} {N ps : List Str} {k : Nat} {fs : FS} (FF : Fun g.K x qual st f fd) (S : FnScope N ps (defScope st))
    (hb : ∀ (cdv : Value) (A : Around) (outer : List Env) (s : Shared) (H : Hp) (E : XK), Room k (A.deeper (envOfC qual (defScope st) s.heap.objs.size f cdv)) → ∃ t, PSs (cxOf CX0 P w g.K mg base N qual (defScope st) f cdv A outer s H E).nox (defBody st) t ∧ SimS g W0 t fs) :
    FnOk P w g.K mg base CX0 (k + 1) f fd ps (SpIn g ps.length N.length fs) := by
  have hps : ps.length ≤ N.length := by have := congrArg List.length S.pre; rw [List.length_take] at this; omega
  refine FF.ok S (fun vs H Q E h => ?_) (fun cdv A outer s H vs Q E hr h => ?_)
  · obtain ⟨H0, sp, ι, hh, ds, R, q, hl, m⟩ := h
    rw [← q.length]; exact hl
  · obtain ⟨t, ht, sim⟩ := hb cdv A outer s H E hr
    refine ⟨t, ht, ?_⟩
    obtain ⟨H0, sp, ι, hh, ds, R, q, hl, m⟩ := h
    have E0 := env_start (N := N) q (by omega)
    rw [hl] at E0
    refine sim H0 sp ι hh H _ (L2.start N vs) _ R E0 ?_
    cases hr : fs (ds.map some ++ List.replicate (N.length - ps.length) none) hh with
    | no => rw [hr] at m; exact m.elim
    | er x v h1 => rw [hr] at m; exact m.elim
    | ok fl h1 =>
      rw [hr] at m
      cases fl with
      | nx e1 => exact fun ι' H' R' S' σ' _ => m ι' H' R' S' .non rfl
      | bk e1 => exact m.elim
      | ct e1 => exact m.elim
      | rt d => exact fun ι' H' R' S' v qv => m ι' H' R' S' v qv
theorem sim_callI {g : G} {W : Wx} {ta : TA} {fa : FA} {E : XK} {np N : Nat} {fs : FS} (ha : SimA g W ta fa) : SimE g W (tCall (SpIn g np N fs) [] E ta) (fCallI np N fs fa) := by
  intro H0 sp ι h H env σ Q R E1 w
  refine ha H0 sp ι h H env σ _ R E1 (WP.bnd w fun xs h1 ι1 H1 R1 S1 w1 vs q => ?_)
  rw [List.append_nil]
  obtain ⟨hl, w1⟩ := ifN w1
  refine ⟨H0, sp, ι1, h1, xs, R1, q, hl, ?_⟩
  cases hr : retR (fs (xs.map some ++ List.replicate (N - np) none) h1) with
  | no => rw [hr] at w1; exact w1
  | er x v h2 =>
    unfold retR at hr
    split at hr <;> cases hr
  | ok d h2 => rw [hr] at w1; exact w1
/-! in the calculus -/
def retQ (Q : D → Hs → Prop) : Fl → Hs → Prop
  | .rt d, h => Q d h
  | .nx _, h => Q .non h
  | _, _ => False
instance rq_rt {Q : D → Hs → Prop} {d : D} {h : Hs} : Go (retQ Q (.rt d) h) (Q d h) := ⟨fun q => q⟩
instance rq_nx {Q : D → Hs → Prop} {e : En} {h : Hs} : Go (retQ Q (.nx e) h) (Q .non h) := ⟨fun q => q⟩
def asArg (np : Nat) (ds : List D) (k : Prop) : Prop := ds.length = np ∧ k
instance arg1 {x : D} {k : Prop} : Go (asArg 1 [x] k) k := ⟨fun q => ⟨rfl, q⟩⟩
instance arg2 {x y : D} {k : Prop} : Go (asArg 2 [x, y] k) k := ⟨fun q => ⟨rfl, q⟩⟩
instance arg3 {x y z : D} {k : Prop} : Go (asArg 3 [x, y, z] k) k := ⟨fun q => ⟨rfl, q⟩⟩
instance g_callI {np N : Nat} {fs : FS} {fr : FA} {env : En} {h : Hs} {Q : D → Hs → Prop} : Go (wp (fCallI np N fs fr env h) Q) (wp (fr env h) fun ds h1 => asArg np ds (wp (fs (ds.map some ++ List.replicate (N - np) none) h1) (retQ Q))) := ⟨fun w => wp_bnd (wp_mono w fun ds h1 v => by
  obtain ⟨hl, fl, h2, e, q⟩ := v
  refine wp_if hl ?_
  rw [e]
  cases fl with
  | rt d => exact wp_ret q
  | nx e => exact wp_ret q
  | bk e => exact q.elim
  | ct e => exact q.elim)⟩
theorem tmp_lst {h h' : Hs} {l : List D} : tmpR h (.ok (.lst l) h') = .ok (.lst l) h' := by
  unfold tmpR
  simp only [pur_lst, Bool.false_eq_true, if_false]
  split <;> rfl
instance (priority := low) t_lst {h h' : Hs} {l : List D} {Q : D → Hs → Prop} : Go (wp (tmpR h (.ok (.lst l) h')) Q) (Q (.lst l) h') := ⟨fun q => wp_eq tmp_lst q⟩
end PF
/-! sets of texts, built from a list or a tuple, and sorted -/
noncomputable section
namespace XS
open PySem PySem.Spec PyProof.Rows L2 PySem.Froz
section
variable {P : Program} {w : World} {A : Around} {E : Value → Shared → Prop} {s : Shared}
/-- the payload, walkable -/
def Pl (w : World) (D : SD) : Prop := Ris D.2.2.place.toList ∧ (w.params.followText "set-order" = true ∨ D.2.2.led = true)
theorem add_pl {D : SD} {h : Int} {v : Value} (p : Pl w D) : Pl w (addTx h v D) := by
  obtain ⟨es, ep, t⟩ := D
  obtain ⟨r, l⟩ := p
  have r1 := layNew_ris t es h v r
  have l1 := layNew_led t es h v
  show Pl w (tailTx ep (layNew t es h v).1 (if (layNew t es h v).2.1.plain = true then { (layNew t es h v).2.1 with plain := false } else (layNew t es h v).2.1) (layNew t es h v).2.2.1)
  have r2 : Ris (if (layNew t es h v).2.1.plain = true then { (layNew t es h v).2.1 with plain := false } else (layNew t es h v).2.1).place.toList := by
    by_cases c : (layNew t es h v).2.1.plain = true
    · rw [if_pos c]; exact r1
    · rw [if_neg c]; exact r1
  have l2 : (if (layNew t es h v).2.1.plain = true then { (layNew t es h v).2.1 with plain := false } else (layNew t es h v).2.1).led = t.led := by
    by_cases c : (layNew t es h v).2.1.plain = true
    · rw [if_pos c]; exact l1
    · rw [if_neg c]; exact l1
  generalize (if (layNew t es h v).2.1.plain = true then { (layNew t es h v).2.1 with plain := false } else (layNew t es h v).2.1) = t2 at *
  unfold tailTx
  split
  · refine ⟨relayAll_ris _ _ _, ?_⟩
    show _ ∨ (relayAll t2 _ _).2.1.led = true
    rw [relayAll_led, l2]; exact l
  · refine ⟨r2, ?_⟩
    show _ ∨ t2.led = true
    rw [l2]; exact l
/-- the set at a holds the texts l -/
structure Ts (P : Program) (w : World) (h : Heap) (a : Addr) (D : SD) (l : List Str) : Prop where
  ho : h.get? a = some (sObj "set" D)
  tx : TxOk P w D l
  pl : Pl w D
  nd : l.Nodup
theorem Ts.at {h h' : Heap} {a : Addr} {D : SD} {l : List Str} (T : Ts P w h a D l) (k : ∀ o, h.get? a = some o → h'.get? a = some o) : Ts P w h' a D l := ⟨k _ T.ho, T.tx, T.pl, T.nd⟩
theorem ts_fresh {h : Heap} {a : Addr} (ho : h.get? a = some { cls := .type "set", dict := none, data := .set #[] 0 (.fresh 0 0 (!w.params.followText "set-order")) }) : Ts P w h a (#[], 0, .fresh 0 0 (!w.params.followText "set-order")) [] where
  ho := ho
  tx := TxOk.nil rfl
  pl := ⟨List.Pairwise.nil, by
    show _ ∨ (!w.params.followText "set-order") = true
    cases w.params.followText "set-order"
    · exact .inr rfl
    · exact .inl rfl⟩
  nd := List.nodup_nil
/-- a text that is there already -/
theorem add_old {a : Addr} {T : String} {D : SD} {l : List Str} {k : Str} {u : Tok} {Q : Bool → Shared → Prop} (ho : s.heap.get? a = some (sObj T D)) (F : TxOk P w D l) (hk : k ∈ l) (hb : l.length < scanBound)
    (h : Q false s) : wpAny (model P w) A (setAddHashed a (.str k u) (hashStr w k)) Q E s := by
  obtain ⟨es, ep, t⟩ := D
  have hd : (sObj T (es, ep, t)).data = .set es ep t := rfl
  have hf : t.fits es.size = true := F.fit
  have hel : ElemsOf (strKind P w) es.toList := F.el
  have hsz : es.size = l.length := F.sz
  have hb0 : es.size < scanBound := by omega
  have hkey : (strKind P w).is k (.str k u) = true := is_str k u
  have hsome : ∃ j, List.findIdx? (fun e => (strKind P w).is k e.2) es.toList = some j := by
    cases hr : List.findIdx? (fun e => (strKind P w).is k e.2) es.toList with
    | none =>
      obtain ⟨e, he, q⟩ := (F.mem k).mp hk
      have := List.findIdx?_eq_none_iff.mp hr e he
      rw [q] at this
      cases this
    | some j => exact ⟨j, rfl⟩
  obtain ⟨j, hj⟩ := hsome
  unfold setAddHashed setAddHashedIn
  refine wpAny_holding (wpAny_bind (wpAny_setState_of ho hd hf ?_))
  dsimp only
  rw [byScan_of rfl hb0 hel]
  simp only [↓reduceIte]
  unfold setAddByScan
  refine wpAny_bind ?_
  refine wpAny_bind (wpAny_rule ?_)
  refine wpAny_bind (wpAny_setScan_of (knd := strKind P w) (k := k) hkey ho hd hf hel ?_)
  rw [hj]
  dsimp only
  exact wpAny_pure (wpAny_pure h)
/-- add -/
theorem add_ts {a : Addr} {D : SD} {l : List Str} {k : Str} {u : Tok} {Q : Bool → Shared → Prop} (T : Ts P w s.heap a D l) (hb : l.length + 1 < scanBound)
    (h : ∀ (b : Bool) (h' : Heap) (D' : SD) (l' : List Str), (∀ b, b ≠ a → h'.get? b = s.heap.get? b) → Ts P w h' a D' l' → (∀ x, x ∈ l' ↔ x = k ∨ x ∈ l) → l'.length ≤ l.length + 1 → Q b { s with heap := h' }) :
    wpAny (model P w) A (setAddHashed a (.str k u) (hashStr w k)) Q E s := by
  by_cases c : k ∈ l
  · refine add_old T.ho T.tx c (by omega) ?_
    exact h false s.heap D l (fun _ _ => rfl) T (fun x => ⟨.inr, fun z => z.elim (fun e => by rw [e]; exact c) id⟩) (Nat.le_succ _)
  · refine add_x T.ho T.tx c hb (h true _ (addTx (hashStr w k) (.str k u) D) (k :: l) ?_ ⟨?_, add_ok u T.tx, add_pl T.pl, List.nodup_cons.mpr ⟨c, T.nd⟩⟩ (fun x => List.mem_cons) (by simp))
    · exact fun b hb => (Heap.SameBut.update ..).2 b hb
    · exact get_upd _ T.ho rfl
/-- set.update's loop -/
theorem set_update_txts {I : Addr} {fp wr : List Addr} {G : Array GenState → Array GenState → Prop} {n : Nat} {Pv : Nat → Value → Prop} {St : Nat → Shared → Prop} {R : Result → Shared → Prop}
    (W : WalksS P w A.in1 I fp wr G n Pv St) (S : Addr) (hSf : S ∉ fp) (xs : List Str) (hn : xs.length = n) (hfew : n + 1 < scanBound) (hval : ∀ i v, Pv i v → ∃ k t, xs[i]? = some k ∧ v = .str k t)
    (h0 : Heap) (hS0 : h0.get? S = none) (hw0 : ∀ b ∈ wr, h0.get? b = none) :
    ∀ (k i : Nat) (s : Shared), n - i = k → i ≤ n → St i s → (∀ b o, h0.get? b = some o → s.heap.get? b = some o) → (∃ D l, Ts P w s.heap S D l ∧ (∀ x, x ∈ l ↔ x ∈ xs.take i) ∧ l.length ≤ i) →
      (∀ s' D l, Moved (S :: wr) G s s' → Ts P w s'.heap S D l → (∀ x, x ∈ l ↔ x ∈ xs) → l.length ≤ n → (∀ b o, h0.get? b = some o → s'.heap.get? b = some o) → R (.ok (.ret .none)) s') →
      codeAny (model P w) A (.builtin "set.update.loop" ⟨[.ref S, .ref I], []⟩) R s := by
  have hSw : S ∉ wr := fun h => hSf (W.sub _ h)
  have hsub : ∀ b ∈ wr, b ∈ S :: wr := fun b hb => List.mem_cons_of_mem _ hb
  have keepM : ∀ {s s' : Shared}, Moved wr G s s' → (∀ b o, h0.get? b = some o → s.heap.get? b = some o) → ∀ b o, h0.get? b = some o → s'.heap.get? b = some o := fun hm hkp b o e =>
    hm.heap b o (fun hb => by rw [hw0 b hb] at e; cases e) (hkp b o e)
  intro k
  induction k with
  | zero =>
    intro i s hk' hi hst hkp ⟨D, l, hS, g, gl⟩ hR
    have hin : i = n := by omega
    subst hin
    refine codeAny_builtin F.entry_set_update_loop ?_
    rw [Around.under_plainId F.plain_set_update_loop _]
    show wpAny _ A.in1 (pyNext (.ref I) >>= _) _ _ s
    refine wpAny_bind (W.done s _ _ hst fun s' hm => ?_)
    show wpAny _ A.in1 (ret Value.none) _ _ s'
    refine wpAny_pure (hR s' D l (hm.mono hsub) (hS.at fun o e => hm.heap S o hSw e) (fun x => ?_) gl (keepM hm hkp))
    rw [g x, ← hn, List.take_length]
  | succ k ih =>
    intro i s hk' hi hst hkp ⟨D, l, hS, g, gl⟩ hR
    have hlt : i < n := by omega
    refine codeAny_builtin F.entry_set_update_loop ?_
    rw [Around.under_plainId F.plain_set_update_loop _]
    show wpAny _ A.in1 (pyNext (.ref I) >>= _) _ _ s
    refine wpAny_bind (W.item i s _ _ hlt hst fun v s' hP hst' hm => ?_)
    obtain ⟨x, t, hx, rfl⟩ := hval i v hP
    have hkp' := keepM hm hkp
    have hS' : Ts P w s'.heap S D l := hS.at fun o e => hm.heap S o hSw e
    show wpAny _ A.in1 (holding [Value.str x t] (setAdd S (.str x t)) >>= _) _ _ s'
    refine wpAny_bind (wpAny_holding ?_)
    unfold setAdd
    refine wpAny_holding ?_
    refine wpAny_bind ((PySem.strKind P w).pyHash (k := x) (strKind_is _ _ _ _) ?_)
    refine add_ts (s := { s' with toks := s'.toks + 1 }) hS' (by omega) fun b h' D' l' hsb hS2 hm2 hl2 => ?_
    have hkp2 : ∀ b o, h0.get? b = some o → h'.get? b = some o := fun b o e => (hsb b (fun z => by rw [z, hS0] at e; cases e)).trans (hkp' b o e)
    have g2 : ∀ y, y ∈ l' ↔ y ∈ xs.take (i + 1) := fun y => by
      rw [hm2 y, g y, List.take_succ, hx]
      simp only [Option.toList_some, List.mem_append, List.mem_singleton]
      exact ⟨fun z => z.elim .inr .inl, fun z => z.elim .inr .inl⟩
    refine wpAny_pure ⟨plainId_quiet F.plain_set_update_loop _, ih (i + 1) _ (by omega) hlt (W.frame _ s' _ _ hst' (Nat.le_succ _) fun b hb o e => ?_) hkp2 ⟨D', l', hS2, g2, by omega⟩ fun s'' D2 l2 hm'' hS'' g'' gl'' hkp'' => ?_⟩
    · rw [hsb b (fun h : b = S => hSf (by rw [← h]; exact hb))]; exact e
    · refine hR s'' D2 l2 (Moved.trans W.gtrans ((hm.mono hsub).then_heap (Nat.le_succ _) fun b o hb e => ?_) hm'') hS'' g'' gl'' hkp''
      rw [hsb b (fun h : b = S => hb (by rw [h]; exact List.mem_cons_self))]; exact e
/-- set(xs), xs a list of texts -/
theorem set_list {l : Addr} {its : Array Value} {xs : List Str} {Q : Value → Shared → Prop} (hh : A.handled = none) (hl : s.heap.IsList l its) (hi : StrsAre its.toList xs) (hn : xs.length + 1 < scanBound)
    (h : ∀ (h' : Heap) (tk : Nat) D m, Ts P w h' s.heap.objs.size D m → (∀ x, x ∈ m ↔ x ∈ xs) → m.length ≤ xs.length → (∀ b o, s.heap.get? b = some o → h'.get? b = some o) → Q (.ref s.heap.objs.size) { s with heap := h', toks := tk }) :
    wpAny (model P w) A (call (.type "set") [.ref l]) Q E s := by
  have zs : xs.length = its.size := by rw [← StrsAre.len_eq hi, Array.length_toList]
  obtain ⟨c, tl, hmro⟩ := F.called_set.mro
  have hmade := F.called_set.made
  have hsub := F.called_set.sub
  refine wpAny_call (codeAny_of_tree ?_)
  show wpAny _ _ (callAny (.type "set") _) _ _ _
  refine wpAny_pure ⟨Code.quiet_builtin _ (by decide +kernel), codeAny_builtin F.entry_type_call ?_⟩
  rw [Around.under_plain (weight_type_call_type "set" [.ref l] []) rfl]
  have h1 := F.called_set.notType
  have h2 := F.called_set.canCreate
  have hct := F.typeCall_set_1 (.ref l)
  repeat (any_goals (first | assumption | wp_step))
  refine codeAny_mono (code_set_led1 (.ref l) (E := E) (Q₁ := fun v u => v = .ref s.heap.objs.size ∧ u = { s with heap := s.heap.push { cls := .type "set", dict := none, data := .set #[] 0 (.fresh 0 0 (!w.params.followText "set-order")) } }) ⟨rfl, rfl⟩) fun r u hr => ?_
  cases r with
  | error e => exact hr
  | ok fl =>
    cases fl with
    | ret v =>
      obtain ⟨rfl, rfl⟩ := hr
      have gS : (s.heap.push { cls := .type "set", dict := none, data := .set #[] 0 (.fresh 0 0 (!w.params.followText "set-order")) }).get? s.heap.objs.size = some { cls := .type "set", dict := none, data := .set #[] 0 (.fresh 0 0 (!w.params.followText "set-order")) } := Heap.get?_push_size _ rfl
      have hT : Shared.TypeIs { s with heap := s.heap.push { cls := .type "set", dict := none, data := .set #[] 0 (.fresh 0 0 (!w.params.followText "set-order")) } } (.ref s.heap.objs.size) "set" := ⟨_, gS, rfl⟩
      have hli := F.called_set.init.lookup
      have hbi := F.called_set.init.bind (.ref s.heap.objs.size)
      repeat (any_goals (first | assumption | wp_step))
      refine codeAny_mono (codeAny_call_builtin (R := wants (fun v u => v = .none ∧ ∃ h' tk D m, u = { s with heap := h', toks := tk } ∧ Ts P w h' s.heap.objs.size D m ∧ (∀ x, x ∈ m ↔ x ∈ xs) ∧ m.length ≤ xs.length ∧ (∀ b o, s.heap.get? b = some o → h'.get? b = some o)) E)
        F.called_set.init.plain F.entry_set_init (check_set_init_1 hT ?_)) fun r2 u2 hr2 => ?_
      · obtain ⟨⟨c0, d0, x0, y0⟩, hol, hcl, nl, hdl⟩ := hl
        simp only at hcl hdl
        subst hcl; subst hdl
        have hol2 := Heap.get?_push_of_some { cls := .type "set", dict := none, data := .set #[] 0 (.fresh 0 0 (!w.params.followText "set-order")) } hol
        have q1 := F.sub_list_set
        have q2 := F.sub_list_frozenset
        have q3 : (Value.type "list" == Value.type "dict") = false := by decide
        have hl1 : (s.heap.push { cls := .type "set", dict := none, data := .set #[] 0 (.fresh 0 0 (!w.params.followText "set-order")) }).IsList l its := ⟨_, hol2, rfl, nl, rfl⟩
        unfold Builtin.«set.__init__» noKeywords Builtin.Frozenset.updateFrom
        generalize hPI : pyIter = PI
        wp_walk
        subst hPI
        refine wpAny_pyIter_list hl1 ?_
        refine wpAny_bind (wpAny_runValue ?_)
        have lS : l < s.heap.objs.size := Heap.lt_size hol
        have h3 : A.in1.in1.in1.handled = none := by simp [hh]
        have sz1 : (s.heap.push { cls := .type "set", dict := none, data := .set #[] 0 (.fresh 0 0 (!w.params.followText "set-order")) }).objs.size = s.heap.objs.size + 1 := Heap.size_push ..
        have nI : l ≠ (s.heap.push { cls := .type "set", dict := none, data := .set #[] 0 (.fresh 0 0 (!w.params.followText "set-order")) }).objs.size := by rw [sz1]; exact Nat.ne_of_lt (Nat.lt_succ_of_lt lS)
        have nS : s.heap.objs.size ∉ [(s.heap.push { cls := .type "set", dict := none, data := .set #[] 0 (.fresh 0 0 (!w.params.followText "set-order")) }).objs.size, l] := by
          rw [sz1]; simp only [List.mem_cons, List.not_mem_nil, or_false, not_or]; exact ⟨Nat.ne_of_lt (Nat.lt_succ_self _), Nat.ne_of_gt lS⟩
        have hval : ∀ (i : Nat) (v : Value), its[i]? = some v → ∃ k t, xs[i]? = some k ∧ v = .str k t := fun i v hv => by
          obtain ⟨t, e⟩ := SS.strs_at hi i v (by rw [Array.getElem?_toList]; exact hv)
          have hlt : i < xs.length := by rw [zs]; exact (Array.getElem?_eq_some_iff.mp hv).1
          exact ⟨_, t, by rw [List.getD_eq_getElem?_getD, List.getElem?_eq_getElem hlt]; rfl, e⟩
        have noB : ∀ b, s.heap.objs.size ≤ b → s.heap.get? b = none := fun b hb => by
          cases q : s.heap.get? b with
          | none => rfl
          | some o => exact absurd (Nat.lt_of_lt_of_le (Heap.lt_size q) hb) (Nat.lt_irrefl _)
        refine set_update_txts ((Walks.list h3 _ l nI its).toS) s.heap.objs.size nS xs zs (by omega) hval s.heap (noB _ (Nat.le_refl _)) (fun b hb => noB b (by rw [List.mem_singleton.mp hb, sz1]; exact Nat.le_succ _)) (its.size - 0) 0 _ (by omega) (Nat.zero_le _)
          ⟨⟨_, Heap.get?_push_size _ rfl, rfl, rfl⟩, hl1.push _⟩ (fun b o e => Heap.get?_push_of_some _ (Heap.get?_push_of_some _ e)) ?hS0 ?hR
        case hS0 => exact ⟨_, [], ts_fresh (Heap.get?_push_of_some _ gS), fun x => by simp, Nat.le_refl _⟩
        case hR =>
          intro u D m hm hS hmem hlen hkp
          obtain ⟨h', g2, d2, tk, os2⟩ := u
          have e1 : g2 = s.gens := hm.gens
          have e2 : d2 = s.drawn := hm.drawn
          have e3 : os2 = s.os := hm.os
          subst e1; subst e2; subst e3
          show wpAny _ _ _ _ _ _
          refine wpAny_pure ?_
          show wpAny _ _ (ret Value.none) _ _ _
          exact wpAny_pure ⟨rfl, h', tk, D, m, rfl, hS, hmem, by omega, hkp⟩
      · cases r2 with
        | error e => exact hr2
        | ok fl2 =>
          cases fl2 with
          | ret v =>
            obtain ⟨rfl, h', tk, D, m, rfl, hS, hmem, hlen, hk⟩ := hr2
            repeat (any_goals (first | assumption | wp_step))
            exact h _ _ _ _ hS hmem hlen hk
          | _ => exact hr2.elim
    | _ => exact hr.elim
/-- set(xs), xs a tuple of texts -/
theorem set_tuple {l : Addr} {its : Array Value} {xs : List Str} {Q : Value → Shared → Prop} (hh : A.handled = none) (hl : s.heap.IsTuple l its) (hi : StrsAre its.toList xs) (hn : xs.length + 1 < scanBound)
    (h : ∀ (h' : Heap) (tk : Nat) D m, Ts P w h' s.heap.objs.size D m → (∀ x, x ∈ m ↔ x ∈ xs) → m.length ≤ xs.length → (∀ b o, s.heap.get? b = some o → h'.get? b = some o) → Q (.ref s.heap.objs.size) { s with heap := h', toks := tk }) :
    wpAny (model P w) A (call (.type "set") [.ref l]) Q E s := by
  have zs : xs.length = its.size := by rw [← StrsAre.len_eq hi, Array.length_toList]
  obtain ⟨c, tl, hmro⟩ := F.called_set.mro
  have hmade := F.called_set.made
  have hsub := F.called_set.sub
  refine wpAny_call (codeAny_of_tree ?_)
  show wpAny _ _ (callAny (.type "set") _) _ _ _
  refine wpAny_pure ⟨Code.quiet_builtin _ (by decide +kernel), codeAny_builtin F.entry_type_call ?_⟩
  rw [Around.under_plain (weight_type_call_type "set" [.ref l] []) rfl]
  have h1 := F.called_set.notType
  have h2 := F.called_set.canCreate
  have hct := F.typeCall_set_1 (.ref l)
  repeat (any_goals (first | assumption | wp_step))
  refine codeAny_mono (code_set_led1 (.ref l) (E := E) (Q₁ := fun v u => v = .ref s.heap.objs.size ∧ u = { s with heap := s.heap.push { cls := .type "set", dict := none, data := .set #[] 0 (.fresh 0 0 (!w.params.followText "set-order")) } }) ⟨rfl, rfl⟩) fun r u hr => ?_
  cases r with
  | error e => exact hr
  | ok fl =>
    cases fl with
    | ret v =>
      obtain ⟨rfl, rfl⟩ := hr
      have gS : (s.heap.push { cls := .type "set", dict := none, data := .set #[] 0 (.fresh 0 0 (!w.params.followText "set-order")) }).get? s.heap.objs.size = some { cls := .type "set", dict := none, data := .set #[] 0 (.fresh 0 0 (!w.params.followText "set-order")) } := Heap.get?_push_size _ rfl
      have hT : Shared.TypeIs { s with heap := s.heap.push { cls := .type "set", dict := none, data := .set #[] 0 (.fresh 0 0 (!w.params.followText "set-order")) } } (.ref s.heap.objs.size) "set" := ⟨_, gS, rfl⟩
      have hli := F.called_set.init.lookup
      have hbi := F.called_set.init.bind (.ref s.heap.objs.size)
      repeat (any_goals (first | assumption | wp_step))
      refine codeAny_mono (codeAny_call_builtin (R := wants (fun v u => v = .none ∧ ∃ h' tk D m, u = { s with heap := h', toks := tk } ∧ Ts P w h' s.heap.objs.size D m ∧ (∀ x, x ∈ m ↔ x ∈ xs) ∧ m.length ≤ xs.length ∧ (∀ b o, s.heap.get? b = some o → h'.get? b = some o)) E)
        F.called_set.init.plain F.entry_set_init (check_set_init_1 hT ?_)) fun r2 u2 hr2 => ?_
      · obtain ⟨⟨c0, d0, x0, y0⟩, hol, hcl, nl, hdl⟩ := hl
        simp only at hcl hdl
        subst hcl; subst hdl
        have hol2 := Heap.get?_push_of_some { cls := .type "set", dict := none, data := .set #[] 0 (.fresh 0 0 (!w.params.followText "set-order")) } hol
        have q1 := F.sub_tuple_set
        have q2 := F.sub_tuple_frozenset
        have q3 : (Value.type "tuple" == Value.type "dict") = false := by decide
        have hl1 : (s.heap.push { cls := .type "set", dict := none, data := .set #[] 0 (.fresh 0 0 (!w.params.followText "set-order")) }).IsTuple l its := ⟨_, hol2, rfl, nl, rfl⟩
        unfold Builtin.«set.__init__» noKeywords Builtin.Frozenset.updateFrom
        generalize hPI : pyIter = PI
        wp_walk
        subst hPI
        refine wpAny_pyIter_tuple hl1 ?_
        refine wpAny_bind (wpAny_runValue ?_)
        have lS : l < s.heap.objs.size := Heap.lt_size hol
        have h3 : A.in1.in1.in1.handled = none := by simp [hh]
        have sz1 : (s.heap.push { cls := .type "set", dict := none, data := .set #[] 0 (.fresh 0 0 (!w.params.followText "set-order")) }).objs.size = s.heap.objs.size + 1 := Heap.size_push ..
        have nI : l ≠ (s.heap.push { cls := .type "set", dict := none, data := .set #[] 0 (.fresh 0 0 (!w.params.followText "set-order")) }).objs.size := by rw [sz1]; exact Nat.ne_of_lt (Nat.lt_succ_of_lt lS)
        have nS : s.heap.objs.size ∉ [(s.heap.push { cls := .type "set", dict := none, data := .set #[] 0 (.fresh 0 0 (!w.params.followText "set-order")) }).objs.size, l] := by
          rw [sz1]; simp only [List.mem_cons, List.not_mem_nil, or_false, not_or]; exact ⟨Nat.ne_of_lt (Nat.lt_succ_self _), Nat.ne_of_gt lS⟩
        have hval : ∀ (i : Nat) (v : Value), its[i]? = some v → ∃ k t, xs[i]? = some k ∧ v = .str k t := fun i v hv => by
          obtain ⟨t, e⟩ := SS.strs_at hi i v (by rw [Array.getElem?_toList]; exact hv)
          have hlt : i < xs.length := by rw [zs]; exact (Array.getElem?_eq_some_iff.mp hv).1
          exact ⟨_, t, by rw [List.getD_eq_getElem?_getD, List.getElem?_eq_getElem hlt]; rfl, e⟩
        have noB : ∀ b, s.heap.objs.size ≤ b → s.heap.get? b = none := fun b hb => by
          cases q : s.heap.get? b with
          | none => rfl
          | some o => exact absurd (Nat.lt_of_lt_of_le (Heap.lt_size q) hb) (Nat.lt_irrefl _)
        refine set_update_txts ((Walks.tuple h3 _ l nI its).toS) s.heap.objs.size nS xs zs (by omega) hval s.heap (noB _ (Nat.le_refl _)) (fun b hb => noB b (by rw [List.mem_singleton.mp hb, sz1]; exact Nat.le_succ _)) (its.size - 0) 0 _ (by omega) (Nat.zero_le _)
          ⟨⟨_, Heap.get?_push_size _ rfl, rfl, rfl⟩, hl1.push _⟩ (fun b o e => Heap.get?_push_of_some _ (Heap.get?_push_of_some _ e)) ?hS0 ?hR
        case hS0 => exact ⟨_, [], ts_fresh (Heap.get?_push_of_some _ gS), fun x => by simp, Nat.le_refl _⟩
        case hR =>
          intro u D m hm hS hmem hlen hkp
          obtain ⟨h', g2, d2, tk, os2⟩ := u
          have e1 : g2 = s.gens := hm.gens
          have e2 : d2 = s.drawn := hm.drawn
          have e3 : os2 = s.os := hm.os
          subst e1; subst e2; subst e3
          show wpAny _ _ _ _ _ _
          refine wpAny_pure ?_
          show wpAny _ _ (ret Value.none) _ _ _
          exact wpAny_pure ⟨rfl, h', tk, D, m, rfl, hS, hmem, by omega, hkp⟩
      · cases r2 with
        | error e => exact hr2
        | ok fl2 =>
          cases fl2 with
          | ret v =>
            obtain ⟨rfl, h', tk, D, m, rfl, hS, hmem, hlen, hk⟩ := hr2
            repeat (any_goals (first | assumption | wp_step))
            exact h _ _ _ _ hS hmem hlen hk
          | _ => exact hr2.elim
    | _ => exact hr.elim
theorem strs_of : ∀ (l : List Value), (∀ v ∈ l, ∃ k t, v = Value.str k t) → ∃ ks : List Str, StrsAre l ks
  | [], _ => ⟨[], .nil⟩
  | v :: l, h => by
    obtain ⟨k, t, rfl⟩ := h v List.mem_cons_self
    obtain ⟨ks, e⟩ := strs_of l fun u hu => h u (List.mem_cons_of_mem _ hu)
    exact ⟨k :: ks, .cons k t e⟩
end
end XS
end
noncomputable section
namespace XS
open PySem PySem.Spec PyProof.Rows L2 PySem.Froz
open PySem.W (EachIs AllAlike Sortable dataLe)
theorem perm_sub {α : Type} [DecidableEq α] : ∀ (l ks : List α), l.Nodup → (∀ x ∈ l, x ∈ ks) → ks.length = l.length → ks.Perm l
  | [], ks, _, _, e => by
    rw [List.eq_nil_of_length_eq_zero e]
  | x :: r, ks, hn, hs, e => by
    obtain ⟨h1, h2⟩ := List.nodup_cons.mp hn
    have hx : x ∈ ks := hs x List.mem_cons_self
    refine (List.perm_cons_erase hx).trans (.cons x (perm_sub r (ks.erase x) h2 (fun y hy => ?_) ?_))
    · exact (List.mem_erase_of_ne (fun z => h1 (by rw [← z]; exact hy))).mpr (hs y (List.mem_cons_of_mem _ hy))
    · rw [List.length_erase_of_mem hx, e]; rfl
theorem len_sub {α : Type} [DecidableEq α] : ∀ (l ks : List α), l.Nodup → (∀ x ∈ l, x ∈ ks) → l.length ≤ ks.length
  | [], ks, _, _ => Nat.zero_le _
  | x :: r, ks, hn, hs => by
    obtain ⟨h1, h2⟩ := List.nodup_cons.mp hn
    have hx : x ∈ ks := hs x List.mem_cons_self
    have := len_sub r (ks.erase x) h2 fun y hy => (List.mem_erase_of_ne (fun z => h1 (by rw [← z]; exact hy))).mpr (hs y (List.mem_cons_of_mem _ hy))
    rw [List.length_erase_of_mem hx] at this
    have := List.length_pos_of_mem hx
    simp only [List.length_cons]
    omega
/-- the texts without repeats -/
def dd : List (List Nat) → List (List Nat)
  | [] => []
  | x :: r => if x ∈ r then dd r else x :: dd r
theorem dd_mem : ∀ (l : List (List Nat)) (x : List Nat), x ∈ dd l ↔ x ∈ l
  | [], x => Iff.rfl
  | y :: r, x => by
    unfold dd
    by_cases c : y ∈ r
    · rw [if_pos c, dd_mem r x, List.mem_cons]
      exact ⟨.inr, fun z => z.elim (fun e => by rw [e]; exact c) id⟩
    · rw [if_neg c, List.mem_cons, List.mem_cons, dd_mem r x]
theorem dd_nd : ∀ l : List (List Nat), (dd l).Nodup
  | [] => List.nodup_nil
  | y :: r => by
    unfold dd
    by_cases c : y ∈ r
    · rw [if_pos c]; exact dd_nd r
    · rw [if_neg c]; exact List.nodup_cons.mpr ⟨fun z => c ((dd_mem r y).mp z), dd_nd r⟩
def sLe (a b : List Nat) : Bool := decide (a ≤ b)
/-- the texts without repeats, in order -/
def canonL (l : List (List Nat)) : List (List Nat) := (dd l).mergeSort sLe
theorem sLe_tr (a b c : List Nat) : sLe a b = true → sLe b c = true → sLe a c = true := by
  unfold sLe
  simp only [decide_eq_true_eq]
  exact fun x y => List.le_trans x y
theorem sLe_to (a b : List Nat) : (sLe a b || sLe b a) = true := by
  unfold sLe
  simp only [Bool.or_eq_true, decide_eq_true_eq]
  exact List.le_total a b
theorem sLe_an {a b : List Nat} (x : sLe a b = true) (y : sLe b a = true) : a = b := by
  unfold sLe at x y
  exact List.le_antisymm (of_decide_eq_true x) (of_decide_eq_true y)
/-- two sorted lists with the same members are one -/
theorem sort_one : ∀ {a b : List (List Nat)}, a.Perm b → a.Pairwise (fun x y => sLe x y = true) → b.Pairwise (fun x y => sLe x y = true) → a = b
  | [], b, p, _, _ => (List.Perm.nil_eq p)
  | x :: a, b, p, ha, hb => by
    cases b with
    | nil => exact absurd p.length_eq (by simp)
    | cons y b =>
      obtain ⟨a1, a2⟩ := List.pairwise_cons.mp ha
      obtain ⟨b1, b2⟩ := List.pairwise_cons.mp hb
      have e : x = y := by
        rcases List.mem_cons.mp (p.mem_iff.mp List.mem_cons_self) with z | z
        · exact z
        · rcases List.mem_cons.mp (p.mem_iff.mpr List.mem_cons_self) with z2 | z2
          · exact z2.symm
          · exact sLe_an (a1 y z2) (b1 x z)
      subst e
      rw [sort_one (List.Perm.cons_inv p) a2 b2]
theorem canon_of {ks l : List (List Nat)} (hn : ks.Nodup) (hm : ∀ x, x ∈ ks ↔ x ∈ l) : ks.mergeSort sLe = canonL l := by
  have p : ks.Perm (dd l) := perm_sub (dd l) ks (dd_nd l) (fun x m => (hm x).mpr ((dd_mem l x).mp m)) (by
    have p1 : (dd l).length ≤ ks.length := len_sub _ _ (dd_nd l) fun x m => (hm x).mpr ((dd_mem l x).mp m)
    have p2 : ks.length ≤ (dd l).length := len_sub _ _ hn fun x m => (dd_mem l x).mpr ((hm x).mp m)
    omega)
  exact sort_one ((List.mergeSort_perm _ _).trans (p.trans (List.mergeSort_perm _ _).symm)) (List.pairwise_mergeSort sLe_tr sLe_to ks) (List.pairwise_mergeSort sLe_tr sLe_to (dd l))
section
variable {P : Program} {w : World} {A : Around} {E : Value → Shared → Prop} {s : Shared}
/-- sorted(the set at a) -/
theorem sorted_ts {a : Addr} {D : SD} {l : List Str} {Q : Value → Shared → Prop} (T : Ts P w s.heap a D l) (hh : A.handled = none) (hb : l.length < scanBound) (hz : l.length ≤ sizeLine) (hu : A.units + 3 < cLine)
    (hQ : ∀ s' p (out : Array Value) (c : Nat) (ks : List (List Nat)), (∀ b o, s.heap.get? b = some o → s'.heap.get? b = some o) → s'.gens = s.gens → s'.os = s.os → s.heap.objs.size ≤ p →
      s'.heap.get? p = some (seqObj "list" out c) → Vals (ks.map fun k => V.str (PF.mk k)) out.toList → ks = canonL (l.map fun k => k.cps.toList) → Q (.ref p) s') :
    wpAny (model P w) A (call (.builtin "sorted") [.ref a]) Q E s := by
  obtain ⟨ho, F, ⟨r, hl⟩, nd⟩ := T
  have hd : (sObj "set" D).data = .set D.1 D.2.1 D.2.2 := rfl
  have hsz : D.1.size = l.length := F.sz
  refine Calls.call_function_entry kind_sorted plain_sorted entry_sorted (args_sorted1 _) ?_
  unfold Builtin.«sorted»
  refine wpAny_bind (m := checkCount "sorted" 1 1 _) (wpAny_pure ?_)
  refine wpAny_bind (collect_set (A := A.in1) hh ⟨_, ho, rfl, hd⟩ F.fit (by omega) r hl fun s1 vs k1 hz1 g1 o1 pm => ?_)
  have hvl : vs.length = l.length := by rw [pm.length_eq, List.length_map, Array.length_toList]; exact hsz
  obtain ⟨ks, hks⟩ := strs_of vs fun v hv => by
    obtain ⟨e, he, q⟩ := List.mem_map.mp (pm.mem_iff.mp hv)
    obtain ⟨⟨k, hk, _⟩, _⟩ := F.el e he
    rw [q] at hk
    cases v with
    | str z t => exact ⟨z, t, rfl⟩
    | _ => cases hk
  have sub : ∀ x ∈ l, x ∈ ks := fun x hx => by
    obtain ⟨e, he, hk⟩ := (F.mem x).mp hx
    have hv : e.2 ∈ vs := pm.mem_iff.mpr (List.mem_map.mpr ⟨e, he, rfl⟩)
    have go : ∀ {us : List Value} {zs : List Str} {v : Value}, StrsAre us zs → v ∈ us → (strKind P w).is x v = true → x ∈ zs := fun {us zs v} q m hk => by
      induction q with
      | nil => cases m
      | cons y t _ ih =>
        rcases List.mem_cons.mp m with z | z
        · subst z
          have : x = y := by
            have q : Value.isStrOf x (.str y t) = true := hk
            unfold Value.isStrOf at q
            exact (eq_of_beq q).symm
          rw [this]; exact List.mem_cons_self
        · exact List.mem_cons_of_mem _ (ih z)
    exact go hks hv hk
  have hkl : ks.length = l.length := by rw [← hvl, StrsAre.len_eq hks]
  have pk : ks.Perm l := perm_sub l ks nd sub hkl
  have hvz : vs.length ≤ sizeLine := by rw [hvl]; exact hz
  refine wpAny_bind (wpAny_newList ?_ hvz)
  have hoL : (s1.heap.push (seqObj "list" vs.toArray 0)).get? s1.heap.objs.size = some (seqObj "list" vs.toArray 0) := Heap.get?_push_size _ rfl
  have er : EachIs (fun (v : Value) (k : Str) => ∃ t, v = .str k t) vs ks := by
    clear hQ pk hkl sub hvl hvz hoL pm
    induction hks with
    | nil => exact .nil
    | cons y t _ ih => exact .cons ⟨t, rfl⟩ ih
  have er2 : EachIs (fun (v : Value) (k : Str) => ∃ as, Reads (s1.heap.push (seqObj "list" vs.toArray 0)) v (.str k) as ∧ s1.heap.objs.size ∉ as) vs ks := er.mono fun v k ⟨t, e⟩ => ⟨[], by rw [e]; exact .str k t, by simp⟩
  refine wpAny_bind (wpAny_holding (PySem.W.list_sort_data (s := { s1 with heap := s1.heap.push (seqObj "list" vs.toArray 0) }) (enc := PyData.str) hoL er er2 (AllAlike.of fun _ _ => rfl) (Sortable.others fun b => ⟨by simp, by simp⟩) (by rw [hkl]; exact hz) (fun b _ => by
    show A.in1.units + 1 + 0 < cLine
    have : A.in1.units = A.units + 1 := rfl
    omega) fun out h1 h2 => ?_))
  obtain ⟨c, hc⟩ := sortedHeap_at (vs := vs) (out := out.toArray) hoL
  have hv : ∀ {us : List Value} {zs : List Str}, EachIs (fun (v : Value) (k : Str) => ∃ t, v = .str k t) us zs → Vals (zs.map V.str) us := fun {us zs} q => by
    induction q with
    | nil => exact Paired.nil
    | cons h _ ih =>
      obtain ⟨t, rfl⟩ := h
      exact Paired.cons (show RelV _ _ from ⟨t, rfl⟩) ih
  have mkc : ∀ k : Str, PF.mk k.cps.toList = k := fun k => by cases k; simp [PF.mk]
  refine wpAny_pure ⟨_, rfl, hQ _ s1.heap.objs.size out.toArray c ((ks.mergeSort (dataLe false PyData.str)).map fun k => k.cps.toList) (fun b u e => ?_) g1 o1 hz1 hc ?_ ?_⟩
  · have q := k1 b u e
    have hlt := Heap.lt_size q
    show (sortedHeap (s1.heap.push (seqObj "list" vs.toArray 0)) s1.heap.objs.size vs out.toArray).get? b = some u
    rw [sortedHeap_old (Nat.ne_of_lt hlt) (by rw [size_push']; exact Nat.lt_succ_of_lt hlt)]
    exact Heap.get?_push_of_some _ q
  · rw [List.map_map]
    have : (fun k : List Nat => V.str (PF.mk k)) ∘ (fun k : Str => k.cps.toList) = V.str := by
      funext k
      show V.str (PF.mk k.cps.toList) = V.str k
      rw [mkc]
    rw [this, List.toList_toArray]
    exact hv h2
  · have e1 : dataLe false PyData.str = fun a b : Str => sLe a.cps.toList b.cps.toList := PySem.W.dataLe_str (fun k : Str => k)
    rw [e1, List.map_mergeSort (s := sLe) (fun a _ b _ => rfl)]
    refine canon_of ?_ fun x => ?_
    · refine List.Pairwise.map _ (fun a b hne e => hne ?_) (pk.nodup_iff.mpr nd)
      rw [← mkc a, ← mkc b, e]
    · exact (pk.map fun k : Str => k.cps.toList).mem_iff
end
end XS
end
noncomputable section
namespace XS
open PySem PySem.Spec PyProof.Rows L2 PySem.Froz
def sV (k : List Nat) : V := .str (PF.mk k)
/-- sorted(set(e)), e a list or a tuple of texts -/
def tSS (K : PySem.W.Frag) (ta : TE) : TE := fun σ H Q => ta σ H fun x H1 => ∃ (l : Addr) (xs : List (List Nat)), x = .ref l ∧ (SqL K H1 l (xs.map sV) ∨ SqT K H1 l (xs.map sV)) ∧ xs.length < 1000 ∧ ∀ p, H1 p = none → Q (.ref p) (upd H1 p (.lst ((canonL xs).map sV)))
variable {X : Cx}
theorem pe_sortedSet {a : Expr} {ta : TE} {p p2 q pos : Pos} (hc : X.calm = true) (hu : X.A.units + 8 < cLine) (hg : Gl X "sorted") (hm : X.mg "sorted" = none) (hg2 : Gl X "set") (hm2 : X.mg "set" = none) (ha : PE X a ta)
    (na : starEach [a] X.env = (false, eval a X.env) :: starEach [] X.env := by rfl) : PE X (.Call (.Name "sorted" p) [.Call (.Name "set" p2) [a] [] q] [] pos) (tSS X.K ta) := by
  refine ⟨fun pins s σ H Q I h => ?_⟩
  refine Call_ (ld_blt I hg hm boot_sorted ?_)
  refine PyProof.Rows.callWith_builtin1 (PyProof.Rows.args_cons ?_ rfl) rfl rfl
  refine Call_ (ld_blt I hg2 hm2 boot_set ?_)
  refine PyProof.Rows.callWith_type1 (PyProof.Rows.args_cons (thn (ha.run pins s σ H _ I h) fun v s1 ⟨x, H1, I1, r1, q1⟩ => PyProof.Rows.args_nil ?_) na) na rfl
  obtain ⟨l, xs, rfl, hq, h1, q1⟩ := q1
  cases r1
  have hsb : (xs.map PF.mk).length + 1 < scanBound := by rw [List.length_map]; unfold scanBound; omega
  have emap : xs.map sV = (xs.map PF.mk).map V.str := by rw [List.map_map]; rfl
  have fin : ∀ (h' : Heap) (tk : Nat) (D : SD) (m : List Str), Ts X.prog X.w h' s1.heap.objs.size D m → (∀ x, x ∈ m ↔ x ∈ xs.map PF.mk) → m.length ≤ (xs.map PF.mk).length →
      (∀ b o, s1.heap.get? b = some o → h'.get? b = some o) →
      wpAny (model X.prog X.w) X.A (spliced (backTo pos (starEach [] X.env))) (fun vs s₂ => wpAny (model X.prog X.w) X.A (call (.builtin "sorted") (Value.ref s1.heap.objs.size :: vs)) (EP X pins σ Q) X.xe s₂) X.xe { s1 with heap := h', toks := tk } := fun h' tk D m T hmem hlen hk => by
    refine PyProof.Rows.args_nil ?_
    have I2 : Inv X pins σ H1 { s1 with heap := h', toks := tk } := I1.kept hk
    rw [List.length_map] at hlen
    refine sorted_ts (s := { s1 with heap := h', toks := tk }) T (I1.ok.hd hc) (by unfold scanBound; omega) (by rw [sizeLine_eq]; omega) (by omega) fun s' pp out c ks k g o hp hgt hv hks => ?_
    have ec : ks = canonL xs := by
      rw [hks]
      have e0 : ∀ x, x ∈ m.map (fun k : Str => k.cps.toList) ↔ x ∈ xs := fun x => by
        constructor
        · intro z
          obtain ⟨k, hk2, rfl⟩ := List.mem_map.mp z
          obtain ⟨y, hy, e⟩ := List.mem_map.mp ((hmem k).mp hk2)
          rw [← e]
          simpa [PF.mk] using hy
        · intro z
          exact List.mem_map.mpr ⟨PF.mk x, (hmem _).mpr (List.mem_map.mpr ⟨x, z, rfl⟩), by simp [PF.mk]⟩
      show (dd (m.map fun k : Str => k.cps.toList)).mergeSort sLe = canonL xs
      exact canon_of (dd_nd _) fun x => (dd_mem _ x).trans (e0 x)
    have hlen2 : ((canonL xs).map sV).length ≤ sizeLine := by
      have : (canonL xs).length ≤ xs.length := by
        unfold canonL
        rw [List.length_mergeSort]
        exact len_sub _ _ (dd_nd xs) fun x hx => (dd_mem xs x).mp hx
      rw [List.length_map, sizeLine_eq]; omega
    have hn : H1 pp = none := I2.hok.fresh hp
    have hv2 : Vals ((canonL xs).map sV) out.toList := by rw [← ec]; exact hv
    have J := I2.call (h' := s'.heap) (g' := s'.gens) (t' := s'.toks) (d' := s'.drawn) (H' := upd H1 pp (.lst ((canonL xs).map sV))) (ch := []) (Un.laid k hp hn) (I2.hok.laid k hp ⟨hlen2, out.toList, c, hv2, hgt⟩) (by rw [g]; exact I2.bare) (fun _ z => nomatch z)
    have e : s' = { s1 with heap := s'.heap, gens := s'.gens, drawn := s'.drawn, toks := s'.toks } := by
      cases s'
      cases s1
      cases o
      rfl
    rw [e]
    exact ⟨.ref pp, _, J, rfl, q1 pp hn⟩
  rcases hq with hq | hq
  · obtain ⟨its, r, pl, hz⟩ := I1.list hq
    rw [emap] at r
    exact set_list (I1.ok.hd hc) pl.isList (by simpa using strsAre_of r) hsb fun h' tk D m T hmem hlen hk => fin h' tk D m T hmem hlen hk
  · obtain ⟨its, r, pl, hz⟩ := I1.tuple hq
    rw [emap] at r
    exact set_tuple (I1.ok.hd hc) pl (by simpa using strsAre_of r) hsb fun h' tk D m T hmem hlen hk => fin h' tk D m T hmem hlen hk
end XS
end
/-! ### comprehensions with two clauses -/
namespace PF
open PySem PySem.Spec PyProof.Rows L2
section
variable {g : G} {W : Wx} {te : TE} {fe : FE} {tc tc1 : TT} {fc fc1 : FT} {tg tg1 : TG} {fg fg1 : FG} {wi wi1 : TI} {fi fi1 : FI} {vs vs1 : List Nat}
open Classical in
noncomputable def lc2N (fg : FG) (fc : FT) (fi1 : FI) (fg1 : FG) (fc1 : FT) (fe : FE) (s : Src) (n : Nat) (env : En) (vs1 : List Nat) : List D → Hs → R Unit
  | [], h => if s.good h then .ok () h else .no
  | d :: r, h => if s.good h then (fg d env h).bnd fun e h1 => (fc e h1).bnd fun b h2 => if b = true then (fi1 e h2).bnd fun s1 h3 => (lcN fg1 fc1 fe s1 n (wipeE e vs1) s1.items h3).bnd fun _ h4 => lc2N fg fc fi1 fg1 fc1 fe s n env vs1 r h4
      else lc2N fg fc fi1 fg1 fc1 fe s n env vs1 r h2
    else .no
noncomputable def fLc2 (fi : FI) (fg : FG) (fc : FT) (fi1 : FI) (fg1 : FG) (fc1 : FT) (fe : FE) (vs vs1 : List Nat) : FE := fun env h => (fi env h).bnd fun s h1 => (lc2N fg fc fi1 fg1 fc1 fe s h1.length (wipeE env vs) vs1 s.items (h1 ++ [.lst []])).bnd fun _ h2 => .ok (.ref h1.length) h2
theorem lc_inner (hg : SimG g W tg1 fg1) (ho : OnlyG tg1 vs1) (hc : SimT g W tc1 fc1) (he : SimE g W te fe) {H0 : Hp} {sp ι5 : List Addr} {h5 : Hs} {H5 : Hp} {n : Nat} {Dl : Addr} {J1 : It} {s1 : Src} {e : En} {σ : L2.St} {Nx : Hp → Prop} {Post : Unit → Hs → List Addr → Hp → Prop}
    (R5 : Rel g.K H0 sp ι5 h5 H5) (n1 : ι5[n]? = some Dl) (hJ : Wk g.K H0 sp J1 s1 ι5 H5) (E5 : EnvR g.K ι5 H5 e σ) (fin : ∀ ι h H, Rel g.K H0 sp ι h H → Stp ι5 H5 ι H → WP g H0 sp W ι H (PF.R.ok () h) Post → Nx H)
    (w : WP g H0 sp W ι5 H5 (lcN fg1 fc1 fe s1 n (wipeE e vs1) s1.items h5) Post) : ∃ W1 : Nat → Nat → Hp → Prop, (∃ m, W1 0 m H5) ∧ ∀ j k H, W1 j k H →
      (J1.stop j H ∧ Nx H) ∨ (J1.go j H ∧ ∃ Nx1 : Hp → Prop, (∀ H', Nx1 H' → ∃ k', k' < k ∧ W1 (j + 1) k' H') ∧ ∀ x H', J1.yld j H x H' → tg1 x (wipe σ vs1) H' fun σ3 H5 => wipe σ3 vs1 = wipe σ vs1 ∧ tc1 σ3 H5 fun b H6 =>
        if b = true then te σ3 H6 fun y H7 => ∃ acc, H7 Dl = some (.lst acc) ∧ acc.length < sizeLine ∧ Nx1 (upd H7 Dl (.lst (acc ++ [y]))) else Nx1 H6) := by
  have E1 := E5.wiped' vs1
  refine ⟨fun i m H => m = s1.items.length - i ∧ i ≤ s1.items.length ∧ ∃ (ι : List Addr) (h : Hs), Rel g.K H0 sp ι h H ∧ Stp ι5 H5 ι H ∧ WP g H0 sp W ι H (lcN fg1 fc1 fe s1 n (wipeE e vs1) (s1.items.drop i) h) Post, ⟨_, rfl, Nat.zero_le _, ι5, _, R5, Stp.refl _ _, w⟩, ?_⟩
  rintro i m H ⟨rfl, hle, ι, h, R, S, w⟩
  by_cases hlt : i < s1.items.length
  · rw [List.drop_eq_getElem_cons hlt] at w
    unfold lcN at w
    obtain ⟨hgood, w⟩ := ifC w
    obtain ⟨hgo, hy⟩ := (hJ ι h H R S hgood).1 i hlt
    refine .inr ⟨hgo, fun H' => ∃ (ι : List Addr) (h : Hs), Rel g.K H0 sp ι h H' ∧ Stp ι5 H5 ι H' ∧ WP g H0 sp W ι H' (lcN fg1 fc1 fe s1 n (wipeE e vs1) (s1.items.drop (i + 1)) h) Post, fun H' x => ⟨s1.items.length - (i + 1), by omega, rfl, hlt, x⟩, fun x H' yl => ?_⟩
    obtain ⟨d, hd, ⟨R', S'⟩, q⟩ := hy x H' yl
    have hd' : s1.items[i] = d := (List.getElem?_eq_some_iff.mp hd).2
    rw [hd'] at w
    have E' := E1.mono (S.trans S')
    have key := hg H0 sp ι h H' (wipeE e vs1) (wipe σ vs1) d x (fun σ2 H2' => tc1 σ2 H2' fun b H3 => if b = true then te σ2 H3 fun y H4 => ∃ acc, H4 Dl = some (.lst acc) ∧ acc.length < sizeLine ∧ (∃ (ι : List Addr) (h : Hs), Rel g.K H0 sp ι h (upd H4 Dl (.lst (acc ++ [y]))) ∧ Stp ι5 H5 ι (upd H4 Dl (.lst (acc ++ [y]))) ∧ WP g H0 sp W ι (upd H4 Dl (.lst (acc ++ [y]))) (lcN fg1 fc1 fe s1 n (wipeE e vs1) (s1.items.drop (i + 1)) h) Post)
      else (∃ (ι : List Addr) (h : Hs), Rel g.K H0 sp ι h H3 ∧ Stp ι5 H5 ι H3 ∧ WP g H0 sp W ι H3 (lcN fg1 fc1 fe s1 n (wipeE e vs1) (s1.items.drop (i + 1)) h) Post)) R' E' q (WP.bnd (w.step S') fun e2 h2 ι3 H3 R3 S3 w3 σ2 Eσ => ?_)
    · have := ho x (wipe σ vs1) H' _ key
      rw [wipe_wipe] at this
      exact this
    · refine hc H0 sp ι3 h2 H3 e2 σ2 _ R3 Eσ (WP.bnd w3 fun b h3 ι4 H4 R4 S4 w4 => ?_)
      have SS4 : Stp ι5 H5 ι4 H4 := ((S.trans S').trans S3).trans S4
      cases b with
      | false =>
        rw [if_neg Bool.false_ne_true] at w4 ⊢
        exact ⟨ι4, h3, R4, SS4, w4⟩
      | true =>
        rw [if_pos rfl] at w4 ⊢
        refine he H0 sp ι4 h3 H4 e2 σ2 _ R4 (Eσ.mono S4) (WP.bnd w4 fun y h4 ι6 H6 R6 S6 w6 vy qy => ?_)
        have SS6 := SS4.trans S6
        cases hh : h4[n]? with
        | none => simp only [hh] at w6; exact w6.elim
        | some o =>
          cases o with
          | dct b => simp only [hh] at w6; exact w6.elim
          | tb => simp only [hh] at w6; exact w6.elim
          | dtt b => simp only [hh] at w6; exact w6.elim
          | lst acc =>
            simp only [hh] at w6
            obtain ⟨hl, w6⟩ := ifN w6
            obtain ⟨a, e1, us, e3, r⟩ := R6.ob _ _ hh
            have ea := SS6.pre _ _ n1
            rw [e1] at ea; cases ea
            have T := putL R6 e1 (r.app (.one qy))
            exact ⟨us, e3, by rw [← r.length, sizeLine_eq]; exact hl, ι6, _, T.1, SS6.trans T.2, w6.step T.2⟩
  · have e : i = s1.items.length := by omega
    subst e
    rw [List.drop_length] at w
    unfold lcN at w
    obtain ⟨hgood, w⟩ := ifC w
    exact .inl ⟨(hJ ι h H R S hgood).2, fin ι h H R S w⟩
theorem sim_lc2 (hi : SimI g W wi fi) (hg : SimG g W tg fg) (ho : OnlyG tg vs) (hc : SimT g W tc fc) (hi1 : SimI g W wi1 fi1) (hg1 : SimG g W tg1 fg1) (ho1 : OnlyG tg1 vs1) (hc1 : SimT g W tc1 fc1) (he : SimE g W te fe) :
    SimE g W (tLc2 wi tg tc wi1 tg1 tc1 te vs vs1) (fLc2 fi fg fc fi1 fg1 fc1 fe vs vs1) := by
  intro H0 sp ι h H env σ Q R E w
  refine hi H0 sp ι h H env σ _ R E (WP.bnd w fun s h1 ι1 H1 R1 S1 w1 J hJ Dl hD => ?_)
  have E1 := (E.mono S1).wiped' vs
  obtain ⟨R2, S2⟩ := R1.add (ho := .lst []) (o := .lst []) hD fun _ => ⟨[], upd_same, rfl⟩
  have n1 : (ι1 ++ [Dl])[h1.length]? = some Dl := by rw [← R1.len]; simp
  generalize hι2 : ι1 ++ [Dl] = ι2 at *
  generalize hH2 : upd H1 Dl (.lst []) = H2 at *
  generalize hP : (fun (_ : Unit) (h' : Hs) (ι' : List Addr) (H' : Hp) => WP g H0 sp W ι' H' (PF.R.ok (D.ref h1.length) h') fun d _ ι' H' => ∀ v, VR g.K ι' H' d v → Q v H') = Pp
  have fin : ∀ (ι : List Addr) (h : Hs) (H : Hp), Rel g.K H0 sp ι h H → Stp ι2 H2 ι H → WP g H0 sp W ι H (PF.R.ok () h) Pp → Q (.ref Dl) H := by
    intro ι h H R S w
    rw [← hP] at w
    refine (w.here R).here R (.ref Dl) ?_
    unfold VR
    exact ⟨Dl, rfl, S.pre _ _ n1⟩
  have w2 : WP g H0 sp W ι2 H2 (lc2N fg fc fi1 fg1 fc1 fe s h1.length (wipeE env vs) vs1 s.items (h1 ++ [.lst []])) Pp := by
    rw [← hP]
    exact WP.bnd (w1.step S2) fun _ h' ι' H' _ _ w => w
  refine ⟨fun i m H => m = s.items.length - i ∧ i ≤ s.items.length ∧ ∃ (ι : List Addr) (h : Hs), Rel g.K H0 sp ι h H ∧ Stp ι2 H2 ι H ∧ WP g H0 sp W ι H (lc2N fg fc fi1 fg1 fc1 fe s h1.length (wipeE env vs) vs1 (s.items.drop i) h) Pp, ⟨_, rfl, Nat.zero_le _, ι2, _, R2, Stp.refl _ _, w2⟩, ?_⟩
  rintro i m H ⟨rfl, hle, ι, h, R, S, w⟩
  by_cases hlt : i < s.items.length
  · rw [List.drop_eq_getElem_cons hlt] at w
    unfold lc2N at w
    obtain ⟨hgood, w⟩ := ifC w
    obtain ⟨hgo, hy⟩ := (hJ ι h H R (S2.trans S) hgood).1 i hlt
    generalize hNx : (fun H' : Hp => ∃ (ι : List Addr) (h : Hs), Rel g.K H0 sp ι h H' ∧ Stp ι2 H2 ι H' ∧ WP g H0 sp W ι H' (lc2N fg fc fi1 fg1 fc1 fe s h1.length (wipeE env vs) vs1 (s.items.drop (i + 1)) h) Pp) = Nx
    refine .inr ⟨hgo, Nx, fun H' x => ⟨s.items.length - (i + 1), by omega, rfl, hlt, by rw [← hNx] at x; exact x⟩, fun x H' yl => ?_⟩
    obtain ⟨d, hd, ⟨R', S'⟩, q⟩ := hy x H' yl
    have hd' : s.items[i] = d := (List.getElem?_eq_some_iff.mp hd).2
    rw [hd'] at w
    have E' := (E1.mono ((S2.trans S).trans S'))
    have key := hg H0 sp ι h H' (wipeE env vs) (wipe σ vs) d x (fun σ2 H2' => tc σ2 H2' fun b H3 => if b = true then wi1 σ2 H3 fun J1 H4 => ∃ W1 : Nat → Nat → Hp → Prop, (∃ m, W1 0 m H4) ∧ ∀ j k H, W1 j k H →
      (J1.stop j H ∧ Nx H) ∨ (J1.go j H ∧ ∃ Nx1 : Hp → Prop, (∀ H', Nx1 H' → ∃ k', k' < k ∧ W1 (j + 1) k' H') ∧ ∀ x H', J1.yld j H x H' → tg1 x (wipe σ2 vs1) H' fun σ3 H5 => wipe σ3 vs1 = wipe σ2 vs1 ∧ tc1 σ3 H5 fun b H6 =>
        if b = true then te σ3 H6 fun y H7 => ∃ acc, H7 Dl = some (.lst acc) ∧ acc.length < sizeLine ∧ Nx1 (upd H7 Dl (.lst (acc ++ [y]))) else Nx1 H6)
      else Nx H3) R' E' q (WP.bnd (w.step S') fun e h2 ι3 H3 R3 S3 w3 σ2 Eσ => ?_)
    · have := ho x (wipe σ vs) H' _ key
      rw [wipe_wipe] at this
      exact this
    · refine hc H0 sp ι3 h2 H3 e σ2 _ R3 Eσ (WP.bnd w3 fun b h3 ι4 H4 R4 S4 w4 => ?_)
      have SS4 : Stp ι2 H2 ι4 H4 := ((S.trans S').trans S3).trans S4
      cases b with
      | false =>
        rw [if_neg Bool.false_ne_true] at w4 ⊢
        rw [← hNx]
        exact ⟨ι4, h3, R4, SS4, w4⟩
      | true =>
        rw [if_pos rfl] at w4 ⊢
        refine hi1 H0 sp ι4 h3 H4 e σ2 _ R4 (Eσ.mono S4) (WP.bnd w4 fun s1 h4 ι5 H5 R5 S5 w5 J1 hJ1 => ?_)
        have SS5 := SS4.trans S5
        refine lc_inner hg1 ho1 hc1 he R5 (SS5.pre _ _ n1) hJ1 ((Eσ.mono S4).mono S5) (Post := fun _ h' ι' H' => WP g H0 sp W ι' H' (lc2N fg fc fi1 fg1 fc1 fe s h1.length (wipeE env vs) vs1 (s.items.drop (i + 1)) h') Pp) (fun ι h H R S w => ?_) (WP.bnd w5 fun _ h' ι' H' _ _ w => w)
        rw [← hNx]
        exact ⟨ι, h, R, SS5.trans S, w.here R⟩
  · have e : i = s.items.length := by omega
    subst e
    rw [List.drop_length] at w
    unfold lc2N at w
    obtain ⟨hgood, w⟩ := ifC w
    exact .inl ⟨(hJ ι h H R (S2.trans S) hgood).2, fin ι h H R S w⟩
end
end PF
/-! ### sorted(set(e)), sorted(dict), split, get -/
namespace PF
open PySem PySem.Spec PyProof.Rows L2 XS
def okS (s : List Nat) : Prop := s.length ≤ 16777216 ∧ ∀ c ∈ s, c < 1114112
theorem txts_good {K : PySem.W.Frag} {ι : List Addr} {H : Hp} : ∀ {ds : List D} {vs : List V} {l : List (List Nat)}, VRs K ι H ds vs → txts ds = some l → vs = l.map sV ∧ ∀ s ∈ l, okS s
  | [], vs, l, q, e => by
    cases e
    exact ⟨VRs.nil_iff.mp q, fun s hs => by cases hs⟩
  | d :: ds, vs, l, q, e => by
    obtain ⟨v, r, rfl, q1, q2⟩ := VRs.cons_iff.mp q
    cases d with
    | str s =>
      unfold txts at e
      cases h : txts ds with
      | none => rw [h] at e; cases e
      | some l' =>
        rw [h] at e; cases e
        obtain ⟨rfl, hc⟩ := txts_good q2 h
        obtain ⟨rfl, c0, c1⟩ := q1.strE
        refine ⟨rfl, fun t ht => ?_⟩
        rcases List.mem_cons.mp ht with rfl | ht
        · exact ⟨c0, c1⟩
        · exact hc t ht
    | _ => cases e
theorem strs_VRs {K : PySem.W.Frag} {ι : List Addr} {H : Hp} : ∀ {l : List (List Nat)}, (∀ s ∈ l, okS s) → VRs K ι H (l.map D.str) (l.map sV)
  | [], _ => VRs.nil_iff.mpr rfl
  | s :: l, h => .cons (.strI (h s List.mem_cons_self).1 (h s List.mem_cons_self).2) (strs_VRs fun t m => h t (List.mem_cons_of_mem _ m))
/-- sorted(set(e)) of texts -/
def ssD (x : D) (h : Hs) : R D := match seqOf h x with
  | some ds => match txts ds with
    | some l => if l.length < 1000 then .ok (.ref h.length) (h ++ [.lst ((canonL l).map D.str)]) else .no
    | none => .no
  | none => .no
def fSS (fe : FE) : FE := fun env h => (fe env h).bnd fun x h1 => ssD x h1
section
variable {g : G} {W : Wx} {te : TE} {fe : FE}
theorem canon_mem {l : List (List Nat)} {s : List Nat} (m : s ∈ canonL l) : s ∈ l := (dd_mem l s).mp ((List.mergeSort_perm _ _).mem_iff.mp m)
theorem sim_ss (he : SimE g W te fe) : SimE g W (tSS g.K te) (fSS fe) := by
  intro H0 sp ι h H env σ Q R E w
  refine he H0 sp ι h H env σ _ R E (WP.bnd w fun x h1 ι1 H1 R1 S1 w1 v1 q1 => ?_)
  unfold ssD at w1
  split at w1
  · rename_i ds e1
    split at w1
    · rename_i l e2
      obtain ⟨hl, w1⟩ := ifN w1
      obtain ⟨a, us, rfl, p, r⟩ := seq_ok R1 q1 e1
      obtain ⟨rfl, hc⟩ := txts_good r e2
      refine ⟨a, l, rfl, p, hl, fun p hp => ?_⟩
      have N := newL R1 (strs_VRs (l := canonL l) fun s m => hc s (canon_mem m)) hp
      exact w1.at N.1 _ N.2
    · exact w1.elim
  · exact w1.elim
theorem kSS {X : Cx} (K) {a : Expr} {ta : TE} {p p2 q pos : Pos} {k : Nat} (hr : Room k X.A) (hg : Gl X (Str.ofString "sorted")) (hm : X.mg (Str.ofString "sorted") = none) (hg2 : Gl X (Str.ofString "set")) (hm2 : X.mg (Str.ofString "set") = none) (ha : PE X a ta) (hc : X.calm = true)
    (na : starEach [a] X.env = (false, eval a X.env) :: starEach [] X.env := by rfl) (h : X.K = K := by rfl) : PE X (.Call (.Name (Str.ofString "sorted") p) [.Call (.Name (Str.ofString "set") p2) [a] [] q] [] pos) (tSS K ta) :=
  h ▸ pe_sortedSet hc (by have := hr.un; omega) hg hm hg2 hm2 ha na
/-! sorted(d): the keys, texts -/
theorem rising_pw : ∀ (p : Str) (l : List Str), risingS p l = true → (p :: l).Pairwise (fun a b => sLe a.cps.toList b.cps.toList = true)
  | p, [], _ => List.pairwise_singleton _ _
  | p, x :: r, h => by
    have h : (!ltCps x.cps.toList p.cps.toList && risingS x r) = true := h
    rw [Bool.and_eq_true] at h
    have ih := rising_pw x r h.2
    have h1 : sLe p.cps.toList x.cps.toList = true := by
      have : ltCps x.cps.toList p.cps.toList = false := by simpa using h.1
      rw [PyProof.Rows.ltCps_eq] at this
      unfold sLe
      rw [decide_eq_true_eq]
      exact List.not_lt.mp (of_decide_eq_false this)
    refine List.pairwise_cons.mpr ⟨fun y hy => ?_, ih⟩
    rcases List.mem_cons.mp hy with rfl | hy
    · exact h1
    · exact sLe_tr _ _ _ h1 ((List.pairwise_cons.mp ih).1 y hy)
theorem sorted_pw {l : List Str} (h : sortedS l = true) : l.Pairwise (fun a b => sLe a.cps.toList b.cps.toList = true) := by
  cases l with
  | nil => exact .nil
  | cons x r => exact rising_pw x r h
def rSK : List V → Hp → VK → Prop := fun xs H Q => ∃ (a : Addr) (kvs : List (Key × V)) (ks : List Str), xs = [.ref a] ∧ Rd H a (.dK kvs) ∧ kvs.map (·.1) = ks.map Sum.inr ∧ ks.length < 64 ∧
  ∀ ys p, ys.Perm ks → sortedS ys = true → H p = none → Q (.ref p) (upd H p (.lst (ys.map V.str)))
def sortedKD (xs : List D) (h : Hs) : R D := match xs with
  | [x] => match dof h x with
    | some kvs => match txts (kvs.map Prod.fst) with
      | some l => if l.length < 64 then .ok (.ref h.length) (h ++ [.lst ((l.mergeSort sLe).map D.str)]) else .no
      | none => .no
    | none => .no
  | _ => .no
theorem sim_sortedK : SimC g rSK sortedKD := by
  intro H0 sp ι h H xs vs W Q R q w
  unfold sortedKD at w
  split at w
  · rename_i x
    split at w
    · rename_i kvs e1
      split at w
      · rename_i l e2
        obtain ⟨hl, w⟩ := ifN w
        obtain ⟨v, rfl, q1⟩ := q.oneE
        obtain ⟨a, us, rfl, e4, k1, k2, k3⟩ := dof_ok R q1 e1
        obtain ⟨e5, hc⟩ := txts_good k2 e2
        have ek : us.map (·.1) = (l.map mk).map Sum.inr := by
          have e6 : (us.map fun p => kV p.1) = l.map sV := e5
          have go : ∀ {us : List (Key × V)} {l : List (List Nat)}, (us.map fun p => kV p.1) = l.map sV → us.map (·.1) = (l.map mk).map Sum.inr := by
            intro us
            induction us with
            | nil => intro l e; cases l with
              | nil => rfl
              | cons => cases e
            | cons u us ih => intro l e; cases l with
              | nil => cases e
              | cons s l =>
                rw [List.map_cons, List.map_cons, List.cons.injEq] at e
                simp only [List.map_cons, ih e.2]
                congr 1
                obtain ⟨k, v⟩ := u
                cases k with
                | inl i => cases e.1
                | inr z =>
                  have : V.str z = V.str (mk s) := e.1
                  injection this with this
                  exact congrArg Sum.inr this
          exact go e6
        refine ⟨a, us, l.map mk, rfl, .inl e4, ek, by rw [List.length_map]; exact hl, fun ys p pm hs hp => ?_⟩
        have e7 : ys.map (fun k => k.cps.toList) = l.mergeSort sLe := by
          refine sort_one (((pm.map fun k : Str => k.cps.toList).trans ?_).trans (List.mergeSort_perm l sLe).symm) ?_ (List.pairwise_mergeSort sLe_tr sLe_to l)
          · rw [List.map_map]
            exact .of_eq (by simp [Function.comp_def, mk])
          · exact List.pairwise_map.mpr (sorted_pw hs)
        have e8 : ys.map V.str = (l.mergeSort sLe).map sV := by
          rw [← e7, List.map_map]
          refine List.map_congr_left fun k _ => ?_
          show V.str k = V.str (mk k.cps.toList)
          congr 1
        rw [e8]
        have N := newL R (strs_VRs (l := l.mergeSort sLe) fun s m => hc s ((List.mergeSort_perm l sLe).mem_iff.mp m)) hp
        exact w.at N.1 _ N.2
      · exact w.elim
    · exact w.elim
  · exact w.elim
/-- sorted of a list of data, of a dict with texts for keys -/
noncomputable def sortedA (xs : List D) (h : Hs) : R D := match xs with
  | [x] => match dof h x with
    | some _ => sortedKD [x] h
    | none => sortedD [x] h
  | _ => .no
theorem sim_sortedA : SimC g (fun xs H Q => SD.rSortDp g.K xs H Q ∨ rSK xs H Q) sortedA := by
  intro H0 sp ι h H xs vs W Q R q w
  unfold sortedA at w
  split at w
  · split at w
    · exact .inr (sim_sortedK H0 sp ι h H _ vs W Q R q w)
    · exact .inl (sim_sorted H0 sp ι h H _ vs W Q R q w)
  · exact w.elim
theorem kSortedA {X : Cx} (K) (hu : X.A.units + 64 < cLine) (hc : X.calm = true) (h : X.K = K := by rfl) : CallR X (Value.builtin "sorted") (fun xs H Q => SD.rSortDp K xs H Q ∨ rSK xs H Q) := h ▸ (SD.cr_sortedDp hu).or (call_sortedD hc)
/-! s.split(sep) -/
theorem spl_mem (S : List Nat) : ∀ (l : List Nat) (k : Nat) (acc p : List Nat), p ∈ TL.spl S k acc l → (∀ c ∈ p, c ∈ acc ∨ c ∈ l) ∧ p.length ≤ acc.length + l.length
  | [], k, acc, p, m => by
    rw [TL.spl_nil, List.mem_singleton] at m
    subst m
    exact ⟨fun c h => .inl h, Nat.le_refl _⟩
  | x :: r, 0, acc, p, m => by
    unfold TL.spl at m
    split at m
    · rcases List.mem_cons.mp m with rfl | m
      · exact ⟨fun c h => .inl h, by simp⟩
      · obtain ⟨h1, h2⟩ := spl_mem S r _ [] p m
        exact ⟨fun c h => (h1 c h).elim (fun z => by cases z) fun z => .inr (List.mem_cons_of_mem _ z), by simp only [List.length_nil, List.length_cons] at *; omega⟩
    · obtain ⟨h1, h2⟩ := spl_mem S r 0 (acc ++ [x]) p m
      refine ⟨fun c h => ?_, by simp only [List.length_append, List.length_cons, List.length_nil] at *; omega⟩
      rcases h1 c h with z | z
      · rcases List.mem_append.mp z with z | z
        · exact .inl z
        · rw [List.mem_singleton.mp z]; exact .inr List.mem_cons_self
      · exact .inr (List.mem_cons_of_mem _ z)
  | x :: r, k + 1, acc, p, m => by
    unfold TL.spl at m
    obtain ⟨h1, h2⟩ := spl_mem S r k acc p m
    exact ⟨fun c h => (h1 c h).elim .inl fun z => .inr (List.mem_cons_of_mem _ z), by simp only [List.length_cons]; omega⟩
def splitD (x : D) (xs : List D) (h : Hs) : R D := match x, xs with
  | .str s, [.str sep] => if sep ≠ [] ∧ sep.all (· < 256) = true ∧ s.length + 2 ≤ 16777216 then .ok (.ref h.length) (h ++ [.lst ((TL.spl sep 0 [] s).map D.str)]) else .no
  | _, _ => .no
def rSplit : V → List V → Hp → VK → Prop := fun x xs H Q => ∃ a b, x = .str a ∧ xs = [.str b] ∧ (b.length == 0) = false ∧ a.length + 2 ≤ sizeLine ∧ rNewStrs (Txt.split a b) H Q
theorem split_is {s sep : List Nat} (h1 : sep ≠ []) (h2 : sep.all (· < 256) = true) : Txt.split (mk s) (mk sep) = (TL.spl sep 0 [] s).map mk := by
  have e := TL.split_spl (mk s) (mk sep) h1 (TL.kind_ok (by simpa [mk] using h2))
  refine TL.map_tl_inj (e.trans ?_)
  rw [List.map_map]
  have : (TL.tl ∘ mk) = id := by funext z; simp [TL.tl, mk]
  rw [this, List.map_id]
theorem sim_split : SimM g rSplit splitD := by
  intro H0 sp ι h H x xs vx vs W Q R qx qs w
  unfold splitD at w
  split at w
  · rename_i s sep
    obtain ⟨⟨h1, h2, h3⟩, w⟩ := ifN w
    obtain ⟨rfl, _, cs⟩ := qx.strE
    obtain ⟨v, rfl, q1⟩ := qs.oneE
    obtain ⟨rfl, _, _⟩ := q1.strE
    refine ⟨mk s, mk sep, rfl, rfl, ?_, ?_, fun p hp => ?_⟩
    · rw [mk_len]
      have := List.length_pos_iff.mpr h1
      simpa using h1
    · rw [mk_len, sizeLine_eq]; exact h3
    · rw [split_is h1 h2]
      have N := newL R (strs_VRs (K := g.K) (ι := ι) (H := H) (l := TL.spl sep 0 [] s) fun t m => by
        obtain ⟨m1, m2⟩ := spl_mem sep s 0 [] t m
        exact ⟨by simp only [List.length_nil] at m2; omega, fun c hc => (m1 c hc).elim (fun z => by cases z) (cs c)⟩) hp
      rw [List.map_map]
      exact w.at N.1 _ N.2
  · exact w.elim
/-! d.get(k), d.get(k, x) -/
def fGet1 (fe fk : FE) : FE := fun env h => (fe env h).bnd fun x h1 => match dof h1 x with
  | some _ => (fk env h1).bnd fun y h2 => match dof h2 x, keyOf y with
    | some kvs, some _ => .ok ((getK kvs y).getD .non) h2
    | _, _ => .no
  | none => .no
def fGet2 (fe fk fx : FE) : FE := fun env h => (fe env h).bnd fun x h1 => match dof h1 x with
  | some _ => (fk env h1).bnd fun y h2 => (fx env h2).bnd fun z h3 => match dof h3 x, keyOf y with
    | some kvs, some _ => .ok ((getK kvs y).getD z) h3
    | _, _ => .no
  | none => .no
variable {tk tx : TE} {fk fx : FE}
theorem sim_get1 (he : SimE g W te fe) (hk : SimE g W tk fk) : SimE g W (tDGet1 te tk) (fGet1 fe fk) := by
  intro H0 sp ι h H env σ Q R E w
  refine he H0 sp ι h H env σ _ R E (WP.bnd w fun x h1 ι1 H1 R1 S1 w1 v1 q1 => ?_)
  cases e1 : dof h1 x with
  | none => rw [e1] at w1; exact w1.elim
  | some kvs0 =>
    rw [e1] at w1
    obtain ⟨a, us, rfl, e4, _⟩ := dof_ok R1 q1 e1
    refine ⟨a, rfl, .inl ⟨us, .inl e4⟩, ?_⟩
    refine hk H0 sp ι1 h1 H1 env σ _ R1 (E.mono S1) (WP.bnd w1 fun y h2 ι2 H2 R2 S2 w2 v2 q2 => ?_)
    split at w2
    · rename_i kvs k e2 e3
      obtain ⟨a', us', e5, e6, qk⟩ := dof_ok R2 (VR.mono S2 _ _ q1) e2
      cases e5
      refine ⟨valV us' k, ?_, ?_⟩
      · rw [keyV q2 e3]; exact DGet.k e6
      · cases eg : getK kvs y with
        | none =>
          rw [eg] at w2
          rw [(qk.get e3).2 eg]
          exact w2.here R2 _ rfl
        | some d =>
          rw [eg] at w2
          obtain ⟨v', e7, qv⟩ := (qk.get e3).1 d eg
          rw [e7]
          exact w2.here R2 v' qv
    · exact w2.elim
theorem sim_get2 (he : SimE g W te fe) (hk : SimE g W tk fk) (hx : SimE g W tx fx) : SimE g W (tDGet2 te tk tx) (fGet2 fe fk fx) := by
  intro H0 sp ι h H env σ Q R E w
  refine he H0 sp ι h H env σ _ R E (WP.bnd w fun x h1 ι1 H1 R1 S1 w1 v1 q1 => ?_)
  cases e1 : dof h1 x with
  | none => rw [e1] at w1; exact w1.elim
  | some kvs0 =>
    rw [e1] at w1
    obtain ⟨a, us, rfl, e4, _⟩ := dof_ok R1 q1 e1
    refine ⟨a, rfl, .inl ⟨us, .inl e4⟩, ?_⟩
    refine hk H0 sp ι1 h1 H1 env σ _ R1 (E.mono S1) (WP.bnd w1 fun y h2 ι2 H2 R2 S2 w2 v2 q2 => ?_)
    refine hx H0 sp ι2 h2 H2 env σ _ R2 ((E.mono S1).mono S2) (WP.bnd w2 fun z h3 ι3 H3 R3 S3 w3 v3 q3 => ?_)
    split at w3
    · rename_i kvs k e2 e3
      obtain ⟨a', us', e5, e6, qk⟩ := dof_ok R3 (VR.mono (S2.trans S3) _ _ q1) e2
      cases e5
      refine ⟨valV us' k, ?_, ?_⟩
      · rw [keyV q2 e3]; exact DGet.k e6
      · cases eg : getK kvs y with
        | none =>
          rw [eg] at w3
          rw [(qk.get e3).2 eg]
          exact w3.here R3 _ q3
        | some d =>
          rw [eg] at w3
          obtain ⟨v', e7, qv⟩ := (qk.get e3).1 d eg
          rw [e7]
          exact w3.here R3 v' qv
    · exact w3.elim
end
end PF
/-! ### the new constructs in the calculus -/
namespace PF
open PySem PySem.Spec PyProof.Rows L2 XS
theorem room1 {k : Nat} {A : Around} (r : Room k A) : A.units + 1 < cLine := by have := r.un; omega
theorem kSplit {X : Cx} {o e : Expr} {to te : TE} {apos pos : Pos} (ho : PE X o to) (he : PE X e te) (hs : starEach [e] X.env = [(false, eval e X.env)] := by rfl) (hbase : attributeBase o (Str.ofString "split") X.env (eval o X.env) = eval o X.env := by rfl) (hline : (apos.endLine == pos.line) = true := by rfl) :
    PE X (.Call (.Attribute o (Str.ofString "split") apos) [e] [] pos) (tM1 rSplit to te) := pe_split ho he hs hbase hline
/-! new objects behind junk -/
class WfC (h : Hs) : Prop where p : WF h
instance (priority := low) {h : Hs} [i : ObsC h] : WfC h := ⟨nor_bel _ i.p⟩
instance {cs : List Int} {b : Bn} {r : Hs} [i : ObsC r] : WfC (BG cs b r) := ⟨(frm_BG cs).wf i.p⟩
instance {cs : List Int} {b : Bn} {r : Hs} [i : ObsC r] : WfC (BH cs b r) := ⟨(frm_BH cs).wf i.p⟩
instance {cs : List Int} {b : Bn} {r : Hs} [i : ObsC r] : WfC (BT cs b r) := ⟨(frm_BT cs).wf i.p⟩
section
variable {env : En} {h : Hs} {Q : D → Hs → Prop} {fe fk fx : FE}
instance g_vj1 {ds : List D} {o : Ob} [i : NorsC ds] [j : WfC h] : Go (wp (valR h (.ok (.ref (h ++ [o]).length) (h ++ [o] ++ [.lst ds]))) Q) (Q (.lst ds) h) := ⟨fun q => wp_eq (val_new j.p i.p (by simp)) q⟩
instance g_ss : Go (wp (fSS fe env h) Q) (wp (fe env h) fun x h1 => wp (ssD x h1) Q) := ⟨fun w => wp_bnd w⟩
instance g_ssM {x : D} {l : List (List Nat)} [i : Sq h x (l.map D.str)] : Go (wp (ssD x h) Q) (l.length < 1000 ∧ Q (.ref h.length) (h ++ [.lst ((canonL l).map D.str)])) := ⟨fun q => by
  refine wp_eq ?_ q.2
  unfold ssD
  rw [i.e]
  simp only [txts_map]
  rw [if_pos q.1]⟩
instance {n : Nat} {ds : List D} [i : Lk h n (.lst ds)] : Sq h (.ref n) ds := ⟨lof_ref i.e⟩
instance g_split {s sep : List Nat} : Go (wp (splitD (.str s) [.str sep] h) Q) ((sep ≠ [] ∧ sep.all (· < 256) = true ∧ s.length + 2 ≤ 16777216) ∧ Q (.ref h.length) (h ++ [.lst ((TL.spl sep 0 [] s).map D.str)])) := ⟨fun q => wp_if q.1 (wp_ret q.2)⟩
class Df (h : Hs) (x : D) (kvs : outParam (List (D × D))) : Prop where e : dof h x = some kvs
instance {ks ws : List D} : Df h (.dct ks ws) (ks.zip ws) := ⟨rfl⟩
instance {n : Nat} {kvs : List (D × D)} [i : Lk h n (.dct kvs)] : Df h (.ref n) kvs := ⟨by unfold dof; simp only []; rw [i.e]⟩
theorem w_sortedK {x : D} {kvs : List (D × D)} {l : List (List Nat)} (e : dof h x = some kvs) (el : kvs.map Prod.fst = l.map D.str) (hl : l.length < 64) (q : Q (.ref h.length) (h ++ [.lst ((l.mergeSort sLe).map D.str)])) : wp (sortedA [x] h) Q := by
  refine wp_eq ?_ q
  unfold sortedA
  simp only [e]
  unfold sortedKD
  simp only [e, el, txts_map]
  rw [if_pos hl]
def asDf (h : Hs) (x : D) (k : Prop) : Prop := (∃ kvs, dof h x = some kvs) ∧ k
instance {x : D} {kvs : List (D × D)} {k : Prop} [i : Df h x kvs] : Go (asDf h x k) k := ⟨fun q => ⟨⟨_, i.e⟩, q⟩⟩
def getQ (h : Hs) (x y z : D) (Q : D → Hs → Prop) : Prop := ∃ kvs k, dof h x = some kvs ∧ keyOf y = some k ∧ Q ((getK kvs y).getD z) h
instance {x z : D} {s : List Nat} {kvs : List (D × D)} [i : Df h x kvs] : Go (getQ h x (.str s) z Q) (Q ((getK kvs (.str s)).getD z) h) := ⟨fun q => ⟨_, _, i.e, rfl, q⟩⟩
instance {x z : D} {s : Int} {kvs : List (D × D)} [i : Df h x kvs] : Go (getQ h x (.int s) z Q) (Q ((getK kvs (.int s)).getD z) h) := ⟨fun q => ⟨_, _, i.e, rfl, q⟩⟩
instance g_get1 : Go (wp (fGet1 fe fk env h) Q) (wp (fe env h) fun x h1 => asDf h1 x (wp (fk env h1) fun y h2 => getQ h2 x y .non Q)) := ⟨fun w => wp_bnd (wp_mono w fun x h1 v => by
  obtain ⟨⟨kvs, e⟩, v⟩ := v
  rw [e]
  refine wp_bnd (wp_mono v fun y h2 v => ?_)
  obtain ⟨kvs2, k, e2, e3, q⟩ := v
  simp only [e2, e3]
  exact wp_ret q)⟩
instance g_get2 : Go (wp (fGet2 fe fk fx env h) Q) (wp (fe env h) fun x h1 => asDf h1 x (wp (fk env h1) fun y h2 => wp (fx env h2) fun z h3 => getQ h3 x y z Q)) := ⟨fun w => wp_bnd (wp_mono w fun x h1 v => by
  obtain ⟨⟨kvs, e⟩, v⟩ := v
  rw [e]
  refine wp_bnd (wp_mono v fun y h2 v => wp_bnd (wp_mono v fun z h3 v => ?_))
  obtain ⟨kvs2, k, e2, e3, q⟩ := v
  simp only [e2, e3]
  exact wp_ret q)⟩
end
/-! comprehensions of two clauses: the inner sources are lists of plain things -/
structure Lc2W {α β : Type} (fr : Bn → Hs → Hs) (fg : FG) (fc : FT) (fi1 : FI) (fg1 : FG) (fc1 : FT) (fe : FE) (s : Src) (emb : α → D) (l : List α) (emb1 : β → D) (sub : α → List β) (env : En) (vs1 : List Nat) (r : Hs) (b : Bn) (Q : D → Hs → Prop) (J : List α → List β → List D → Prop) : Prop where
  it : s.items = l.map emb
  rn : r.all obNor = true
  gd : ∀ b acc, s.good (fr b (r ++ [.lst acc]))
  j0 : J [] [] []
  big : ∀ done inn acc, J done inn acc → acc.length < 16777216
  st : ∀ done x rest acc b1, l = done ++ x :: rest → J done [] acc → nors acc = true → wp (fg (emb x) env (fr b1 (r ++ [.lst acc]))) fun e h1 => wp (fc e h1) fun t h2 => cnd t
    (wp (fi1 e h2) fun s1 h3 => (∃ b3, h3 = fr b3 (r ++ [.lst acc])) ∧ s1.items = (sub x).map emb1 ∧ (∀ b acc, s1.good (fr b (r ++ [.lst acc]))) ∧
      (∀ inn y rest1 acc b1, sub x = inn ++ y :: rest1 → J done inn acc → nors acc = true → wp (fg1 (emb1 y) (wipeE e vs1) (fr b1 (r ++ [.lst acc]))) fun e1 h1 => wp (fc1 e1 h1) fun t h2 => cnd t
        (wp (fe e1 h2) fun z h3 => ∃ b3, h3 = fr b3 (r ++ [.lst acc]) ∧ z.nor = true ∧ J done (inn ++ [y]) (acc ++ [z])) (∃ b3, h2 = fr b3 (r ++ [.lst acc]) ∧ J done (inn ++ [y]) acc)) ∧
      (∀ acc, J done (sub x) acc → J (done ++ [x]) [] acc))
    (∃ b3, h2 = fr b3 (r ++ [.lst acc]) ∧ J (done ++ [x]) [] acc)
  en : ∀ acc b', J l [] acc → nors acc = true → Q (.lst acc) (fr b' r)
theorem lcI_w {m : Nat} {fr : Bn → Hs → Hs} (F : Frm m fr) {β : Type} {fg : FG} {fc : FT} {fe : FE} {s : Src} {emb : β → D} {l : List β} {env : En} {r : Hs} {J : List β → List D → Prop} (big : ∀ inn acc, J inn acc → acc.length < 16777216) (gd : ∀ b acc, s.good (fr b (r ++ [.lst acc])))
    (st : ∀ done x rest acc b1, l = done ++ x :: rest → J done acc → nors acc = true → wp (fg (emb x) env (fr b1 (r ++ [.lst acc]))) fun e h1 => wp (fc e h1) fun t h2 => cnd t (wp (fe e h2) fun y h3 => ∃ b3, h3 = fr b3 (r ++ [.lst acc]) ∧ y.nor = true ∧ J (done ++ [x]) (acc ++ [y])) (∃ b3, h2 = fr b3 (r ++ [.lst acc]) ∧ J (done ++ [x]) acc)) :
    ∀ (rest done : List β) (acc : List D) (b : Bn), l = done ++ rest → J done acc → nors acc = true → ∃ acc' b', lcN fg fc fe s (r.length + m) env (rest.map emb) (fr b (r ++ [.lst acc])) = .ok () (fr b' (r ++ [.lst acc'])) ∧ J l acc' ∧ nors acc' = true
  | [], done, acc, b, p, j, hn => by
    rw [List.append_nil] at p
    subst p
    refine ⟨acc, b, ?_, j, hn⟩
    rw [List.map_nil]
    unfold lcN
    rw [if_pos (gd _ _)]
  | x :: rest, done, acc, b, p, j, hn => by
    obtain ⟨e, h1, q1, t, h2, q2, w⟩ := st done x rest acc b p j hn
    rw [List.map_cons]
    unfold lcN
    rw [if_pos (gd _ _), q1]
    simp only [bnd_ok]
    rw [q2]
    simp only [bnd_ok]
    cases t with
    | false =>
      obtain ⟨b3, rfl, j'⟩ := w.2 rfl
      simp only [Bool.false_eq_true, if_false]
      exact lcI_w F big gd st rest (done ++ [x]) acc b3 (by simp [p]) j' hn
    | true =>
      obtain ⟨y, h3, q3, b3, rfl, hy, j'⟩ := w.1 rfl
      simp only [if_true]
      rw [q3]
      simp only [bnd_ok]
      have e1 : (fr b3 (r ++ [.lst acc]))[r.length + m]? = some (.lst acc) := by
        rw [F.app, List.getElem?_append_right (by rw [F.len]; omega), F.len]; simp
      rw [e1]
      simp only []
      rw [if_pos (big _ _ j)]
      have e2 : (fr b3 (r ++ [.lst acc])).set (r.length + m) (.lst (acc ++ [y])) = fr b3 (r ++ [.lst (acc ++ [y])]) := by
        rw [F.app, F.app, List.set_append_right _ _ (by rw [F.len]; omega), F.len]; simp
      rw [e2]
      exact lcI_w F big gd st rest (done ++ [x]) (acc ++ [y]) b3 (by simp [p]) j' (by rw [nors_append, hn]; simp [hy])
theorem lc2_w {m : Nat} {fr : Bn → Hs → Hs} (F : Frm m fr) {α β : Type} {fg : FG} {fc : FT} {fi1 : FI} {fg1 : FG} {fc1 : FT} {fe : FE} {s : Src} {emb : α → D} {l : List α} {emb1 : β → D} {sub : α → List β} {env : En} {vs1 : List Nat} {r : Hs} {b : Bn} {Q : D → Hs → Prop} {J : List α → List β → List D → Prop}
    (f : Lc2W fr fg fc fi1 fg1 fc1 fe s emb l emb1 sub env vs1 r b Q J) :
    ∀ (rest done : List α) (acc : List D) (b : Bn), l = done ++ rest → J done [] acc → nors acc = true → ∃ acc' b', lc2N fg fc fi1 fg1 fc1 fe s (r.length + m) env vs1 (rest.map emb) (fr b (r ++ [.lst acc])) = .ok () (fr b' (r ++ [.lst acc'])) ∧ J l [] acc' ∧ nors acc' = true
  | [], done, acc, b, p, j, hn => by
    rw [List.append_nil] at p
    subst p
    refine ⟨acc, b, ?_, j, hn⟩
    rw [List.map_nil]
    unfold lc2N
    rw [if_pos (f.gd _ _)]
  | x :: rest, done, acc, b, p, j, hn => by
    obtain ⟨e, h1, q1, t, h2, q2, w⟩ := f.st done x rest acc b p j hn
    rw [List.map_cons]
    unfold lc2N
    rw [if_pos (f.gd _ _), q1]
    simp only [bnd_ok]
    rw [q2]
    simp only [bnd_ok]
    cases t with
    | false =>
      obtain ⟨b3, rfl, j'⟩ := w.2 rfl
      simp only [Bool.false_eq_true, if_false]
      exact lc2_w F f rest (done ++ [x]) acc b3 (by simp [p]) j' hn
    | true =>
      obtain ⟨s1, h3, q3, ⟨b3, rfl⟩, i1, g1, st1, nx⟩ := w.1 rfl
      simp only [if_true]
      rw [q3]
      simp only [bnd_ok]
      obtain ⟨acc', b', q4, j', hn'⟩ := lcI_w F (env := wipeE e vs1) (fun inn acc => f.big done inn acc) g1 st1 (sub x) [] acc b3 rfl j hn
      rw [i1, q4]
      simp only [bnd_ok]
      exact lc2_w F f rest (done ++ [x]) acc' b' (by simp [p]) (nx acc' j') hn'
def lcG2 (fi : FI) (fg : FG) (fc : FT) (fi1 : FI) (fg1 : FG) (fc1 : FT) (fe : FE) (vs vs1 : List Nat) (env : En) (h : Hs) (Q : D → Hs → Prop) : Prop := wp (fVal (fLc2 fi fg fc fi1 fg1 fc1 fe vs vs1) env h) Q
instance (priority := high) {fi : FI} {fg : FG} {fc : FT} {fi1 : FI} {fg1 : FG} {fc1 : FT} {fe : FE} {vs vs1 : List Nat} {env : En} {h : Hs} {Q : D → Hs → Prop} : Go (wp (fVal (fLc2 fi fg fc fi1 fg1 fc1 fe vs vs1) env h) Q) (lcG2 fi fg fc fi1 fg1 fc1 fe vs vs1 env h Q) := ⟨fun w => w⟩
theorem w_vlc2 {m : Nat} {fr : Bn → Hs → Hs} (F : Frm m fr) {fi : FI} {fg : FG} {fc : FT} {fi1 : FI} {fg1 : FG} {fc1 : FT} {fe : FE} {vs vs1 : List Nat} {env : En} {r : Hs} {b : Bn} {Q : D → Hs → Prop}
    (w : wp (fi env (fr b r)) fun s h1 => ∃ b1, h1 = fr b1 r ∧ ∃ (α β : Type) (emb : α → D) (l : List α) (emb1 : β → D) (sub : α → List β) (J : List α → List β → List D → Prop), Lc2W fr fg fc fi1 fg1 fc1 fe s emb l emb1 sub (wipeE env vs) vs1 r b Q J) : wp (fVal (fLc2 fi fg fc fi1 fg1 fc1 fe vs vs1) env (fr b r)) Q := by
  obtain ⟨s, h1, e, b1, rfl, α, β, emb, l, emb1, sub, J, f⟩ := w
  obtain ⟨acc', b', q1, q2, q3⟩ := lc2_w F f l [] [] b1 rfl f.j0 rfl
  refine wp_eq (a := .lst acc') (h := fr b' r) ?_ (f.en acc' b' q2 q3)
  unfold fVal fLc2
  rw [e]
  simp only [bnd_ok]
  rw [F.len, ← F.app, f.it, q1]
  simp only [bnd_ok]
  exact F.new' q3 f.rn rfl
end PF
/-! zip of three tuples -/
namespace Z3
open PySem PySem.Spec PyProof.Rows L2
def It3 (K : PySem.W.Frag) (a b c : Addr) : It where
  go := fun i H => ∃ (xs ys zs : List V) (x y z : V), SqT K H a xs ∧ SqT K H b ys ∧ SqT K H c zs ∧ xs[i]? = some x ∧ ys[i]? = some y ∧ zs[i]? = some z
  yld := fun i H v H' => ∃ T x y z, v = .ref T ∧ H T = none ∧ H' = upd H T (.tup [x, y, z]) ∧ (∀ xs, SqT K H a xs → xs[i]? = some x) ∧ (∀ ys, SqT K H b ys → ys[i]? = some y) ∧ ∀ zs, SqT K H c zs → zs[i]? = some z
  stop := fun i H => ∃ xs ys zs : List V, SqT K H a xs ∧ SqT K H b ys ∧ SqT K H c zs ∧ i ≤ xs.length ∧ i ≤ ys.length ∧ i ≤ zs.length ∧ (i = xs.length ∨ i = ys.length ∨ i = zs.length)
theorem lt3 {l : List Value} {v : Value} {i : Nat} (q : l[i]? = some v) : i < l.toArray.size := by rw [List.size_toArray]; exact (List.getElem?_eq_some_iff.mp q).1
theorem same3 {l : List Value} {v v' : Value} {i : Nat} (q : l[i]? = some v) (q' : l.toArray[i]? = some v') : v = v' := by
  have e1 : l[i]? = some v' := by simpa using q'
  rw [q] at e1
  exact Option.some.inj e1
theorem turn_zip3 {P : Program} {w : World} {K : PySem.W.Frag} {elts : List Expr} {kk : Nat} {tpos : Pos} {a b c z TI TO i1 i2 i3 : Addr} (S : ZipSep3 z TI TO i1 i2 i3 [i1, a] [i2, b] [i3, c]) (na : a ≠ i1) (nb : b ≠ i2) (nc : c ≠ i3) (nz1 : i1 ≠ z) (nz2 : i2 ≠ z) (nz3 : i3 ≠ z) :
    Turn P w K (.Tuple elts kk tpos) (It3 K a b c) [z, TI, TO, i1, i2, i3] z (fun i h => IsZip h z TI TO .none ∧ IsTupOf3 h TI (.ref i1) (.ref i2) (.ref i3) ∧ (∃ x y u, IsTupOf3 h TO x y u) ∧ h.IsTupleIter i1 a i ∧ h.IsTupleIter i2 b i ∧ h.IsTupleIter i3 c i) where
  mem := by simp
  obj := fun i h st q hc => by
    obtain ⟨hz, hTI, ⟨x, y, u, hTO⟩, ⟨o1, e1, _, d1⟩, ⟨o2, e2, _, d2⟩, ⟨o3, e3, _, d3⟩⟩ := st
    have e' : q = z ∨ q = TI ∨ q = TO ∨ q = i1 ∨ q = i2 ∨ q = i3 := by simpa using hc
    rcases e' with e | e | e | e | e | e
    · rw [e]; exact ⟨_, hz, fun v q => nomatch q⟩
    · rw [e]; exact ⟨_, hTI, fun v q => nomatch q⟩
    · rw [e]; exact ⟨_, hTO, fun v q => nomatch q⟩
    · rw [e]; exact ⟨o1, e1, fun v q => by rw [d1] at q; cases q⟩
    · rw [e]; exact ⟨o2, e2, fun v q => by rw [d2] at q; cases q⟩
    · rw [e]; exact ⟨o3, e3, fun v q => by rw [d3] at q; cases q⟩
  keep := fun i h h' st k => by
    obtain ⟨hz, hTI, ⟨x, y, u, hTO⟩, h1, h2, h3⟩ := st
    exact ⟨k z (by simp) _ hz, k TI (by simp) _ hTI, ⟨x, y, u, k TO (by simp) _ hTO⟩, h1.at fun o q => k i1 (by simp) o q, h2.at fun o q => k i2 (by simp) o q, h3.at fun o q => k i3 (by simp) o q⟩
  item := by
    intro X hP hw hK hc i pins s σ H E I hf st hg
    subst hP hw hK
    obtain ⟨hz, hTI, ⟨x0, y0, u0, hTO⟩, h1, h2, h3⟩ := st
    obtain ⟨xs, ys, zs, x, y, u, hqx, hqy, hqz, hx, hy, hu⟩ := hg
    obtain ⟨its, rv, p, _⟩ := I.tuple hqx
    obtain ⟨its2, rv2, p2, _⟩ := I.tuple hqy
    obtain ⟨its3, rv3, p3, _⟩ := I.tuple hqz
    obtain ⟨v1, g1, r1⟩ := rv.get hx
    obtain ⟨v2, g2, r2⟩ := rv2.get hy
    obtain ⟨v3, g3, r3⟩ := rv3.get hu
    have hzl : z < s.heap.objs.size := Heap.lt_size hz
    have hh : X.A.in1.handled = none := I.ok.hd hc
    refine wpAny_pyNext_zipD3_item S (Draws.tuple hh i1 a na its.toArray) (Draws.tuple hh i2 b nb its2.toArray) (Draws.tuple hh i3 c nc its3.toArray) hz hTI hTO ⟨h1, show s.heap.IsTuple a its.toArray from p⟩ ⟨h2, show s.heap.IsTuple b its2.toArray from p2⟩ ⟨h3, show s.heap.IsTuple c its3.toArray from p3⟩ (lt3 g1) (lt3 g2) (lt3 g3)
      fun y1 y2 y3 h' tk e1 e2 e3 z' TO' s1 s2 s3 hT hsz hk => ?_
    obtain rfl := same3 g1 e1
    obtain rfl := same3 g2 e2
    obtain rfl := same3 g3 e3
    refine ⟨_, rfl, wpAny_letOwnedTupleGo_zip (s := { s with heap := h', toks := tk }) z' fun h'' z'' sb => ?_⟩
    have hT2 : h''.get? s.heap.objs.size = some { cls := .type "tuple", data := .seq #[v1, v2, v3] } := (sb.2 _ (Nat.ne_of_gt hzl)).trans hT
    have new : ObjOk X.prog X.w (upd H s.heap.objs.size (.tup [x, y, u])) h'' s.heap.objs.size (.tup [x, y, u]) :=
      ⟨by show 3 ≤ sizeLine; decide, [v1, v2, v3], .cons r1 (.cons r2 (.cons r3 .nil)), ⟨_, hT2, rfl, _, rfl⟩⟩
    have I1 : Inv X pins σ (upd H s.heap.objs.size (.tup [x, y, u])) { s with heap := h'', toks := tk } :=
      I.turnedNew (ch := [z, TI, TO, i1, i2, i3]) (fun c o hb q => (sb.2 c (fun q' => hb (by simp [q']))).trans (hk c o (fun q' => hb (by simp [q'])) (fun q' => hb (by simp [q'])) (fun q' => hb (by simp [q'])) (fun q' => hb (by simp [q'])) (fun q' => hb (by simp [q'])) q)) hf (Nat.le_refl _) new
    refine ⟨.ref s.heap.objs.size, _, I1, rfl, ⟨_, x, y, u, rfl, I.hok.fresh (Nat.le_refl _), rfl, fun l hl => by rw [I.tuple_inj hl hqx]; exact hx, fun l hl => by rw [I.tuple_inj hl hqy]; exact hy, fun l hl => by rw [I.tuple_inj hl hqz]; exact hu⟩, ⟨z'', ?_, ⟨v1, v2, v3, ?_⟩, ?_, ?_, ?_⟩, fun c hcm => ?_⟩
    · exact (sb.2 _ S.TIz).trans (hk _ _ S.TIz S.TITO S.TIi1 S.TIi2 S.TIi3 hTI)
    · exact (sb.2 _ S.TOz).trans TO'
    · exact s1.1.at fun o q => (sb.2 _ nz1).trans q
    · exact s2.1.at fun o q => (sb.2 _ nz2).trans q
    · exact s3.1.at fun o q => (sb.2 _ nz3).trans q
    · have hlt : c < s.heap.objs.size := by
        have e' : c = z ∨ c = TI ∨ c = TO ∨ c = i1 ∨ c = i2 ∨ c = i3 := by simpa using hcm
        rcases e' with q | q | q | q | q | q
        · rw [q]; exact hzl
        · rw [q]; exact Heap.lt_size hTI
        · rw [q]; exact Heap.lt_size hTO
        · rw [q]; obtain ⟨_, e1, _⟩ := h1; exact Heap.lt_size e1
        · rw [q]; obtain ⟨_, e2, _⟩ := h2; exact Heap.lt_size e2
        · rw [q]; obtain ⟨_, e2, _⟩ := h3; exact Heap.lt_size e2
      rw [upd_ne (Nat.ne_of_lt hlt)]
      exact (hf c hcm).1
  done := by
    intro X hP hw hK hc i pins s σ H E I hf st hg
    subst hP hw hK
    obtain ⟨hz, hTI, ⟨x0, y0, u0, hTO⟩, h1, h2, h3⟩ := st
    obtain ⟨xs, ys, zs, hqx, hqy, hqz, l1, l2, l3, hend⟩ := hg
    obtain ⟨its, rv, p, _⟩ := I.tuple hqx
    obtain ⟨its2, rv2, p2, _⟩ := I.tuple hqy
    obtain ⟨its3, rv3, p3, _⟩ := I.tuple hqz
    rw [rv.length, rv2.length, rv3.length] at hend
    rw [rv.length] at l1
    rw [rv2.length] at l2
    rw [rv3.length] at l3
    have hh : X.A.in1.handled = none := I.ok.hd hc
    exact wpAny_pyNext_zipD3_end S (Draws.tuple hh i1 a na its.toArray) (Draws.tuple hh i2 b nb its2.toArray) (Draws.tuple hh i3 c nc its3.toArray) hz hTI hTO ⟨h1, show s.heap.IsTuple a its.toArray from p⟩ ⟨h2, show s.heap.IsTuple b its2.toArray from p2⟩ ⟨h3, show s.heap.IsTuple c its3.toArray from p3⟩
      (by rw [List.size_toArray]; exact l1) (by rw [List.size_toArray]; exact l2) (by rw [List.size_toArray]; exact l3) (by simpa using hend) fun h' tk hk => ⟨rfl, I.turnedL (t' := tk) (ch := [z, TI, TO, i1, i2, i3]) (fun c o hb q => hk c o (fun q' => hb (by simp [q'])) (fun q' => hb (by simp [q'])) (fun q' => hb (by simp [q'])) (fun q' => hb (by simp [q'])) (fun q' => hb (by simp [q'])) q) hf⟩
  self := fun A i s Q E st h => wpAny_pyIter_zip st.1 h
def iZip3 (K : PySem.W.Frag) (ta : TA) : TI := fun σ H R => ta σ H fun vs H1 => ∃ a b c xs ys zs, vs = [.ref a, .ref b, .ref c] ∧ SqT K H1 a xs ∧ SqT K H1 b ys ∧ SqT K H1 c zs ∧ R (It3 K a b c) H1
theorem pi_zip3 {X : Cx} {e e2 e3 : Expr} {ta : TA} {p pos tpos : Pos} {elts : List Expr} {kk : Nat} (hg : Gl X "zip") (hm : X.mg "zip" = none) (ha : PA X [e, e2, e3] ta)
    (hs : starEach [e, e2, e3] X.env = (false, eval e X.env) :: starEach [e2, e3] X.env := by rfl) (hpl : (backTo pos (starEach [e2, e3] X.env)).any (·.1) = false := by rfl) :
    PI X (.Tuple elts kk tpos) (.Call (.Name "zip" p) [e, e2, e3] [] pos) (iZip3 X.K ta) := by
  refine ⟨fun pins s σ H R I h => ?_⟩
  refine Call_ (ld_blt I hg hm PyProof.Rows.boot_zip (PyProof.Rows.callWith_type1 (thn (ha.run pos pins s σ H _ I h) fun us s1 ⟨vs, H1, I1, r1, q1⟩ => ?_) hs hpl))
  obtain ⟨a, b, c, xs, ys, zs, ex, hqx, hqy, hqz, q⟩ := q1
  subst ex
  cases r1 with
  | cons r rr =>
    cases rr with
    | cons r' rr =>
      cases rr with
      | cons r'' rr =>
        cases rr
        cases r
        cases r'
        cases r''
        have fresh6 : ∀ c, c ∈ [s1.heap.objs.size + 5, s1.heap.objs.size + 3, s1.heap.objs.size + 4, s1.heap.objs.size, s1.heap.objs.size + 1, s1.heap.objs.size + 2] → FpOk X pins H1 c := fun c hcm => by
          have e' : c = s1.heap.objs.size + 5 ∨ c = s1.heap.objs.size + 3 ∨ c = s1.heap.objs.size + 4 ∨ c = s1.heap.objs.size ∨ c = s1.heap.objs.size + 1 ∨ c = s1.heap.objs.size + 2 := by simpa using hcm
          have hle : s1.heap.objs.size ≤ c := by
            rcases e' with z | z | z | z | z | z <;> (rw [z]; first | exact Nat.le_add_right _ _ | exact Nat.le_refl _)
          exact I1.fpOk hle (I1.hok.fresh hle)
        obtain ⟨its, rv, p1, _⟩ := I1.tuple hqx
        obtain ⟨its2, rv2, p2, _⟩ := I1.tuple hqy
        obtain ⟨its3, rv3, p3, _⟩ := I1.tuple hqz
        obtain ⟨o1, ho1, _⟩ := id p1
        obtain ⟨o2, ho2, _⟩ := id p2
        obtain ⟨o3, ho3, _⟩ := id p3
        have la := Heap.lt_size ho1
        have lb := Heap.lt_size ho2
        have lc := Heap.lt_size ho3
        refine zip_begins3 (begins_tuple a its.toArray) (begins_tuple b its2.toArray) (begins_tuple c its3.toArray) (show s1.heap.IsTuple a its.toArray from p1) (show s1.heap.IsTuple b its2.toArray from p2) (show s1.heap.IsTuple c its3.toArray from p3) fun h' hz hTI hTO h1 h2 h3 hsz hk => wpAny_pyIter_zip hz ?_
        have I2 : Inv X pins σ H1 { s1 with heap := h' } := I1.kept (t' := s1.toks) hk
        refine ⟨s1.heap.objs.size + 5, [s1.heap.objs.size + 5, s1.heap.objs.size + 3, s1.heap.objs.size + 4, s1.heap.objs.size, s1.heap.objs.size + 1, s1.heap.objs.size + 2], _, _, H1, rfl, I2, turn_zip3 (a := a) (b := b) (c := c) (zip_sep3 (N := s1.heap.objs.size) (fp1 := [a]) (fp2 := [b]) (fp3 := [c]) (by simpa using la) (by simpa using lb) (by simpa using lc)) (Nat.ne_of_lt la) (Nat.ne_of_lt (Nat.lt_succ_of_lt lb)) (Nat.ne_of_lt (Nat.lt_add_right 2 lc)) ?_ ?_ ?_, ⟨hz, hTI, ⟨_, _, _, hTO⟩, ⟨_, h1, rfl, rfl⟩, ⟨_, h2, rfl, rfl⟩, ⟨_, h3, rfl, rfl⟩⟩, fresh6, q⟩
        · exact Nat.ne_of_lt (Nat.lt_add_of_pos_right (by decide))
        · exact Nat.ne_of_lt (Nat.add_lt_add_left (by decide) _)
        · exact Nat.ne_of_lt (Nat.add_lt_add_left (by decide) _)
end Z3
namespace PF
open PySem PySem.Spec PyProof.Rows L2
def zip3L : List D → List D → List D → List D
  | x :: xs, y :: ys, z :: zs => .tup [x, y, z] :: zip3L xs ys zs
  | _, _, _ => []
theorem zip3_get : ∀ {a b c : List D} {i : Nat} {x y z : D}, a[i]? = some x → b[i]? = some y → c[i]? = some z → (zip3L a b c)[i]? = some (.tup [x, y, z])
  | x :: xs, y :: ys, z :: zs, 0, _, _, _, h1, h2, h3 => by cases h1; cases h2; cases h3; rfl
  | x :: xs, y :: ys, z :: zs, i + 1, _, _, _, h1, h2, h3 => by
    simp only [List.getElem?_cons_succ, zip3L] at *
    exact zip3_get h1 h2 h3
  | [], _, _, _, _, _, _, h1, _, _ => by simp at h1
  | _ :: _, [], _, _, _, _, _, _, h2, _ => by simp at h2
  | _ :: _, _ :: _, [], _, _, _, _, _, _, h3 => by simp at h3
theorem zip3_len : ∀ (a b c : List D), (zip3L a b c).length ≤ a.length ∧ (zip3L a b c).length ≤ b.length ∧ (zip3L a b c).length ≤ c.length ∧ ((zip3L a b c).length = a.length ∨ (zip3L a b c).length = b.length ∨ (zip3L a b c).length = c.length)
  | x :: xs, y :: ys, z :: zs => by
    have := zip3_len xs ys zs
    simp only [zip3L, List.length_cons]
    omega
  | [], _, _ => by simp [zip3L]
  | _ :: _, [], _ => by simp [zip3L]
  | _ :: _, _ :: _, [] => by simp [zip3L]
def fZip3 (fa : FA) : FI := fun env h => (fa env h).bnd fun xs h1 => match xs with
  | [.tup a, .tup b, .tup c] => .ok ⟨zip3L a b c, []⟩ h1
  | _ => .no
section
variable {g : G} {W : Wx}
theorem sim_zip3 {ta : TA} {fa : FA} (ha : SimA g W ta fa) : SimI g W (Z3.iZip3 g.K ta) (fZip3 fa) := by
  intro H0 sp ι h H env σ Q R E w
  refine ha H0 sp ι h H env σ _ R E (WP.bnd w fun xs h1 ι1 H1 R1 S1 w1 vs q => ?_)
  split at w1
  · rename_i a b c
    obtain ⟨v1, r1, rfl, q1, q⟩ := VRs.cons_iff.mp q
    obtain ⟨v2, r2, rfl, q2, q⟩ := VRs.cons_iff.mp q
    obtain ⟨v3, r3, rfl, q3, q⟩ := VRs.cons_iff.mp q
    obtain rfl := VRs.nil_iff.mp q
    obtain ⟨a1, us1, rfl, p1, s1⟩ := q1.tupE
    obtain ⟨a2, us2, rfl, p2, s2⟩ := q2.tupE
    obtain ⟨a3, us3, rfl, p3, s3⟩ := q3.tupE
    refine ⟨a1, a2, a3, us1, us2, us3, rfl, p1, p2, p3, w1.here R1 _ fun ι2 h2 H2 R2 S2 _ => ?_⟩
    have p1' := sqT_step S2 p1
    have p2' := sqT_step S2 p2
    have p3' := sqT_step S2 p3
    have s1' := VRs.mono S2 _ _ s1
    have s2' := VRs.mono S2 _ _ s2
    have s3' := VRs.mono S2 _ _ s3
    have l1 := s1'.length
    have l2 := s2'.length
    have l3 := s3'.length
    obtain ⟨z1, z2, z3, z4⟩ := zip3_len a b c
    refine ⟨fun i hi => ?_, ⟨us1, us2, us3, p1', p2', p3', by simp only []; omega, by simp only []; omega, by simp only []; omega, by simp only []; omega⟩⟩
    simp only [] at hi
    refine ⟨⟨us1, us2, us3, us1[i]'(by omega), us2[i]'(by omega), us3[i]'(by omega), p1', p2', p3', by simp, by simp, by simp⟩, fun x H' y => ?_⟩
    obtain ⟨T, xv, yv, zv, rfl, hT, rfl, y1, y2, y3⟩ := y
    obtain ⟨d, h4, t1⟩ := s1'.back (y1 us1 p1')
    obtain ⟨d', h5, t2⟩ := s2'.back (y2 us2 p2')
    obtain ⟨d'', h6, t3⟩ := s3'.back (y3 us3 p3')
    obtain ⟨x1, x2⟩ := newT (p := T) R2 (VRs.cons t1 (VRs.cons t2 (.one t3))) hT
    exact ⟨_, zip3_get h4 h5 h6, x1, x2⟩
  · exact w1.elim
end
theorem kZip3 {X : Cx} (K) {e e2 e3 : Expr} {ta : TA} {p pos tpos : Pos} {elts : List Expr} {kk : Nat} (hg : Gl X "zip") (hm : X.mg "zip" = none) (ha : PA X [e, e2, e3] ta)
    (hs : starEach [e, e2, e3] X.env = (false, eval e X.env) :: starEach [e2, e3] X.env := by rfl) (hpl : (backTo pos (starEach [e2, e3] X.env)).any (·.1) = false := by rfl) (h : X.K = K := by rfl) :
    PI X (.Tuple elts kk tpos) (.Call (.Name "zip" p) [e, e2, e3] [] pos) (Z3.iZip3 K ta) := h ▸ Z3.pi_zip3 hg hm ha hs hpl
def asT3 (ds : List D) (k : List D → List D → List D → Prop) : Prop := ∃ x y z, ds = [.tup x, .tup y, .tup z] ∧ k x y z
instance {x y z : List D} {k : List D → List D → List D → Prop} : Go (asT3 [.tup x, .tup y, .tup z] k) (k x y z) := ⟨fun q => ⟨x, y, z, rfl, q⟩⟩
instance g_zip3 {env : En} {h : Hs} {fr : FA} {QI : Src → Hs → Prop} : Go (wp (fZip3 fr env h) QI) (wp (fr env h) fun xs h1 => asT3 xs fun x y z => QI ⟨zip3L x y z, []⟩ h1) := ⟨fun w => wp_bnd (wp_mono w fun x h1 v => by
  obtain ⟨x, y, z, rfl, q⟩ := v
  exact wp_ret q)⟩
theorem zip3_map {α : Type} (f g k : α → D) : ∀ l : List α, zip3L (l.map f) (l.map g) (l.map k) = l.map fun x => .tup [f x, g x, k x]
  | [] => rfl
  | x :: l => by simp only [List.map_cons, zip3L, zip3_map f g k l]
end PF
/-! ### shared by the laws' texts -/
namespace PF
open PySem PySem.Spec PyProof.Rows L2 XS
def lcG (fi : FI) (fg : FG) (fc : FT) (fe : FE) (vs : List Nat) (env : En) (h : Hs) (Q : D → Hs → Prop) : Prop := wp (fVal (fLc fi fg fc fe vs) env h) Q
instance (priority := high) {fi : FI} {fg : FG} {fc : FT} {fe : FE} {vs : List Nat} {env : En} {h : Hs} {Q : D → Hs → Prop} : Go (wp (fVal (fLc fi fg fc fe vs) env h) Q) (lcG fi fg fc fe vs env h Q) := ⟨fun w => w⟩
theorem cnd_beq {α : Type} [BEq α] [LawfulBEq α] {a b : α} {A B : Prop} (x : a = b → A) (y : a ≠ b → B) : cnd (a == b) A B := ⟨fun z => x (by simpa using z), fun z => y (by simpa using z)⟩
theorem cnd_bne {α : Type} [BEq α] [LawfulBEq α] {a b : α} {A B : Prop} (x : a ≠ b → A) (y : a = b → B) : cnd (!(a == b)) A B := ⟨fun z => x (by simpa using z), fun z => y (by simpa using z)⟩
theorem cnd_dec {c : Prop} [Decidable c] {A B : Prop} (x : c → A) (y : ¬ c → B) : cnd (decide c) A B := ⟨fun z => x (by simpa using z), fun z => y (by simpa using z)⟩
theorem runP_oE {np N : Nat} {fs : FS} {ds : List D} {P : Ob → Prop} (hl : ds.length = np) (w : wp (fs (ds.map some ++ List.replicate (N - np) none) []) fun fl h => ∃ n o, fl = .rt (.ref n) ∧ h[n]? = some o ∧ o.pur = true ∧ P o) : ∃ o, noE (runP np N fs ds) = .obj o ∧ P o := by
  obtain ⟨fl, h, e, n, o, rfl, q, hp, p⟩ := w
  refine ⟨o, ?_, p⟩
  unfold runP
  rw [if_pos hl, e]
  simp only [toP, pur_ref, Bool.false_eq_true, if_false, Nat.not_lt_zero, q, hp, if_true, noE]
theorem runP_wE {np N : Nat} {fs : FS} {ds : List D} {P : D → Prop} (hl : ds.length = np) (w : wp (fs (ds.map some ++ List.replicate (N - np) none) []) fun fl _ => ∃ d, fl = .rt d ∧ d.pur = true ∧ P d) : ∃ d, noE (runP np N fs ds) = .val d ∧ P d := by
  obtain ⟨fl, h, e, d, rfl, hp, p⟩ := w
  refine ⟨d, ?_, p⟩
  unfold runP
  rw [if_pos hl, e]
  simp only [toP, hp, if_true, noE]
theorem runP_er {np N : Nat} {fs : FS} {ds : List D} {x : Er} {v : En} {h : Hs} (hl : ds.length = np) (e : fs (ds.map some ++ List.replicate (N - np) none) [] = .er x v h) : runP np N fs ds = .er x := by
  unfold runP
  rw [if_pos hl, e]
theorem seqEr {a b : FS} {env v : En} {h h1 : Hs} {e : Er} (q : a env h = .er e v h1) : fSeq a b env h = .er e v h1 := by
  unfold fSeq; rw [q]; rfl
theorem ifEr {ft : FT} {a b : FS} {env v : En} {h h1 h2 : Hs} {e : Er} (w : wp (ft env h) fun c h' => c = true ∧ h' = h2) (q : a env h2 = .er e v h1) : fIfS ft a b env h = .er e v h1 := by
  obtain ⟨c, h', e1, rfl, rfl⟩ := w
  unfold fIfS; rw [e1]; simp only [bnd_ok, if_true]; exact q
theorem callX_er {F : List D → RP} {fa : FA} {env : En} {h h' : Hs} {ds ds' : List D} {e : Er} (h1 : fa env h = .ok ds h') (h2 : dall (dcl h') ds = some ds') (h3 : F ds' = .er e) : fCallX F fa env h = .er e env h' := by
  unfold fCallX; rw [h1]; simp only [bnd_ok]; rw [h2]; simp only []; rw [h3]
def asP3 (ds : List D) (k : D → D → D → Prop) : Prop := ∃ x y z, ds = [x, y, z] ∧ k x y z
instance {x y z : D} {k : D → D → D → Prop} : Go (asP3 [x, y, z] k) (k x y z) := ⟨fun q => ⟨x, y, z, rfl, q⟩⟩
instance {i j l : Nat} {fr : FA} {env : En} {h : Hs} {Q : Fl → Hs → Prop} : Go (wp (fPar3 i j l fr env h) Q) (wp (fr env h) fun ds h1 => asP3 ds fun x y z => wp (gN i x env h1) fun e h2 => wp (gN j y e h2) fun e' h3 => wp (gN l z e' h3) fun e'' h4 => Q (.nx e'') h4) := ⟨fun w => wp_bnd (wp_mono w fun _ _ v => by
  obtain ⟨x, y, z, rfl, e, h2, e1, e', h3, e2, e'', h4, e3, q⟩ := v
  cases e1
  cases e2
  cases e3
  exact wp_ret q)⟩
theorem neL_ev {h : Hs} {n : Nat} {ds : List D} (i : Lk h n (.lst ds)) (hp : nors ds = true) (hd : dpts ds ≤ 59) {Q : D → Hs → Prop} (q : Q (.bl (!ds.isEmpty)) h) : wp (neD (.ref n) (.lst []) h) Q := by
  refine wp_eq (a := .bl (!ds.isEmpty)) (h := h) ?_ q
  unfold neD
  rw [dref_ref i.e hp, dref_nor rfl]
  simp only []
  rw [if_pos ⟨by simp only [dpt]; omega, by simp [dpt, dpts]⟩]
  simp only [deq, deqs_nil]
theorem ixN_last (n : Nat) : ixN (n + 1) (-1) = some n := by
  unfold ixN
  rw [if_neg (by omega), if_pos (by omega)]
  congr 1
  omega
theorem at_last {α : Type} (xs : List α) (x : α) : atI (xs ++ [x]) (-1) = some x := by
  unfold atI
  rw [List.length_append, List.length_singleton, ixN_last]
  simp
def setL (env : En) (h2 : Hs) (x y d : D) : R En := match own h2 x, y with
  | some (n, ds), .int k => match ixN ds.length k with
    | some j => .ok env (h2.set n (.lst (ds.set j d)))
    | none => .no
  | _, _ => .no
instance g_gSl {fo fi : FE} {d : D} {env : En} {h : Hs} {Q : En → Hs → Prop} : Go (wp (gS fo fi d env h) Q) (wp (fo env h) fun x h1 => wp (fi env h1) fun y h2 => wp (setL env h2 x y d) Q) := ⟨fun w => wp_bnd (wp_mono w fun _ _ v => wp_bnd v)⟩
theorem set_last {n : Nat} {xs : List D} {z d : D} {env : En} {h h' : Hs} {Q : En → Hs → Prop} (i : Lk h n (.lst (xs ++ [z]))) (j : Sk h n (.lst (xs ++ [d])) h') (q : Q env h') : wp (setL env h (.ref n) (.int (-1)) d) Q := by
  unfold setL
  rw [own_ref i.e]
  simp only [List.length_append, List.length_singleton, ixN_last]
  refine wp_ret ?_
  have : (xs ++ [z]).set xs.length d = xs ++ [d] := by rw [List.set_append_right _ _ (Nat.le_refl _)]; simp
  rw [this, j.e]
  exact q
def nxQ (M : En → Hs → Prop) : Fl → Hs → Prop := fun fl h => ∃ e, fl = .nx e ∧ M e h
instance {M : En → Hs → Prop} {e : En} {h : Hs} : Go (nxQ M (.nx e) h) (M e h) := ⟨fun q => ⟨e, rfl, q⟩⟩
theorem cnd_cut {t : Bool} {x y : R Fl} {b : FS} {Q : Fl → Hs → Prop} (M : En → Hs → Prop) (wx : t = true → wp x (nxQ M)) (wy : t = false → wp y (nxQ M)) (k : ∀ e h, M e h → wp (b e h) Q) : cnd t (wp x (seqQ b Q)) (wp y (seqQ b Q)) := by
  refine ⟨fun z => wp_mono (wx z) fun fl h q => ?_, fun z => wp_mono (wy z) fun fl h q => ?_⟩
  · obtain ⟨e, rfl, m⟩ := q
    exact k e h m
  · obtain ⟨e, rfl, m⟩ := q
    exact k e h m
instance (priority := 500) {m n : Nat} {o : Ob} {r : Hs} [i : Sz m r n] : Sz m (o :: r) (n + 1) := ⟨by rw [List.length_cons, ← i.e]; omega⟩
instance (priority := low) {n : Nat} {o p : Ob} {r : Hs} [i : Lk r n o] : Lk (r ++ [p]) n o := ⟨by rw [List.getElem?_append_left (List.getElem?_eq_some_iff.mp i.e).1]; exact i.e⟩
def isS (n : Nat) : D → Bool
  | .str s => decide (s.length ≤ n)
  | _ => false
theorem isS_mem {n : Nat} {ds : List D} (h : ds.all (isS n) = true) {d : D} (m : d ∈ ds) : ∃ s : List Nat, d = .str s ∧ s.length ≤ n := by
  have := List.all_eq_true.mp h d m
  cases d with
  | str s => exact ⟨s, rfl, by simpa [isS] using this⟩
  | _ => cases this
theorem cut_last {α : Type} (xs : List α) : cutL xs none (some (-1)) = xs.dropLast := by
  rw [List.dropLast_eq_take]
  unfold cutL
  rw [HT.sIx_none, show HT.sIx xs.length xs.length (some (-1)) = xs.length - 1 by
    show (if (-1 : Int) < 0 then ((-1 : Int) + (xs.length : Int)).toNat else min (-1 : Int).toNat xs.length) = _
    rw [if_pos (by omega)]; omega]
  simp
theorem newB_w {env : En} {fr : FA} {h : Hs} {Q : D → Hs → Prop} (w : wp (fr env h) fun xs h1 => ∃ ns, xs = [.scr ns] ∧ ns.length ≤ 63 ∧ Q (.ref (h1.length + 1)) (h1 ++ [.lst ((ns.map fun i => if i < 0 then -i else i).map D.int)] ++ [bagO ⟨0, 1234567891, 0⟩ h1.length])) : wp (fNewB fr env h) Q := wp_bnd (wp_mono w fun xs h1 v => by
  obtain ⟨ns, rfl, hl, q⟩ := v
  exact wp_if hl (wp_ret q))
theorem deqs_str : ∀ a b : List (List Nat), deqs (a.map D.str) (b.map D.str) = (a == b)
  | [], [] => rfl
  | [], b :: r => rfl
  | a :: r, [] => rfl
  | a :: r, b :: s => by
    simp only [List.map_cons, deqs, deqs_str r s, deq]
    rfl
theorem deq_tstr (a b : List (List Nat)) : deq (.tup (a.map D.str)) (.tup (b.map D.str)) = (a == b) := by
  unfold deq
  exact deqs_str a b
theorem dpts_str (a : List (List Nat)) : dpts (a.map D.str) = 0 := dpts_zero fun d m => by
  obtain ⟨x, _, rfl⟩ := List.mem_map.mp m
  rfl
instance {a b : List (List Nat)} {h : Hs} {Q : D → Hs → Prop} : Go (wp (eqD (.tup (a.map D.str)) (.tup (b.map D.str)) h) Q) (Q (.bl (a == b)) h) := ⟨fun q => wp_eq (eqD_nor (by rw [nor_tup]; exact nors_of_purs _ (purs_map_str' a)) (by rw [nor_tup]; exact nors_of_purs _ (purs_map_str' b)) (by simp only [dpt, dpts_str]; omega) (by simp only [dpt, dpts_str]; omega)) (by rw [deq_tstr]; exact q)⟩
instance {a b : List (List Nat)} {h : Hs} {Q : D → Hs → Prop} : Go (wp (neD (.tup (a.map D.str)) (.tup (b.map D.str)) h) Q) (Q (.bl (!(a == b))) h) := ⟨fun q => wp_eq (neD_nor (by rw [nor_tup]; exact nors_of_purs _ (purs_map_str' a)) (by rw [nor_tup]; exact nors_of_purs _ (purs_map_str' b)) (by simp only [dpt, dpts_str]; omega) (by simp only [dpt, dpts_str]; omega)) (by rw [deq_tstr]; exact q)⟩
section
variable {α : Type} {f : α → D} {l : List α} {k : Nat} {h : Hs} {Q : D → Hs → Prop}
instance (priority := high) : Go (wp (slD (.tup (l.map f)) none (some (k : Int)) h) Q) (Q (.tup ((l.take k).map f)) h) := ⟨fun q => wp_eq rfl (by rw [cut_to, ← List.map_take]; exact q)⟩
instance (priority := high) : Go (wp (slD (.tup (l.map f)) (some (k : Int)) none h) Q) (Q (.tup ((l.drop k).map f)) h) := ⟨fun q => wp_eq rfl (by rw [cut_from, ← List.map_drop]; exact q)⟩
instance (priority := high) : Go (wp (lenD [.tup (l.map f)] h) Q) (Q (.int (l.length : Nat)) h) := ⟨fun q => wp_eq rfl (by rw [List.length_map]; exact q)⟩
instance (priority := high) : Go (wp (lenD [.lst (l.map f)] h) Q) (Q (.int (l.length : Nat)) h) := ⟨fun q => wp_eq rfl (by rw [List.length_map]; exact q)⟩
end
theorem dszs_strs (l : List (List Nat)) : dszs (l.map D.str) = l.length := by
  induction l with
  | nil => rfl
  | cons a r ih => simp only [List.map_cons, dszs, dsz, ih, List.length_cons]; omega
instance {A B : Prop} : Go (cnd (!true) A B) B := ⟨fun a => And.intro (fun z => by cases z) (fun _ => a)⟩
instance {A B : Prop} : Go (cnd (!false) A B) A := ⟨fun a => And.intro (fun _ => a) (fun z => by cases z)⟩
/-! ### the kit's own small functions -/
instance {h : Hs} {c : Nat} {t : List Nat} {Q : D → Hs → Prop} : Go (wp (inD (.str [c]) (.str t) h) Q) (Q (.bl (decide (c ∈ t))) h) := ⟨fun q => wp_eq rfl q⟩
theorem nors_mem {ds : List D} (h : nors ds = true) {d : D} (m : d ∈ ds) : d.nor = true := by rw [nors_all, List.all_eq_true] at h; exact h d m
instance {ds : List D} {a b : Option Int} [i : NorsC ds] : NorsC (cutL ds a b) := ⟨nors_of fun d m => nors_mem i.p (cutL_mem m)⟩
def asS (x : D) (k : List Nat → Prop) : Prop := ∃ s, x = .str s ∧ k s
instance {s : List Nat} {k : List Nat → Prop} : Go (asS (.str s) k) (k s) := ⟨fun q => ⟨s, rfl, q⟩⟩
instance (priority := low) g_m1v {f : D → List D → Hs → R D} {fa fe : FE} {env : En} {h : Hs} {Q : D → Hs → Prop} : Go (wp (fM1 f fa fe env h) Q) (wp (fa env h) fun x h1 => asS x fun s => wp (fe env h1) fun y h2 => wp (f (.str s) [y] h2) Q) := ⟨fun w => wp_bnd (wp_mono w fun x h1 v => by
  obtain ⟨s, rfl, v⟩ := v
  exact wp_bnd v)⟩
def tyS : D → String
  | .non => "NoneType"
  | .bl _ => "bool"
  | .int _ => "int"
  | .str _ => "str"
  | .tup _ => "tuple"
  | _ => "list"
theorem ty_nor {h : Hs} : ∀ {d : D}, d.nor = true → tyN h d = some (tyS d)
  | .non, _ => rfl
  | .bl _, _ => rfl
  | .int _, _ => rfl
  | .str _, _ => rfl
  | .tup _, _ => rfl
  | .lst _, _ => rfl
  | .ref _, p => by simp [D.nor] at p
  | .scr _, p => by simp [D.nor] at p
  | .dct _ _, p => by simp [D.nor] at p
instance {h : Hs} {d : D} {k : String → Prop} [i : NorC d] : Go (asTyN (tyN h d) k) (k (tyS d)) := ⟨fun q => ⟨_, ty_nor i.p, q⟩⟩
def isTD : D → Bool
  | .tup _ => true
  | _ => false
def isStrD : D → Bool
  | .str _ => true
  | _ => false
theorem any_tup (d : D) : (["tuple"].any fun b => subT (tyS d) b) = isTD d := by cases d <;> rfl
theorem any_str (d : D) : (["str"].any fun b => subT (tyS d) b) = isStrD d := by cases d <;> rfl
theorem w_all {h : Hs} {Q : D → Hs → Prop} {α : Type} {f : α → Bool} {l : List α} (q : Q (.bl (l.all f)) h) : wp (allD [.lst (l.map fun x => D.bl (f x))] h) Q := by
  refine wp_eq ?_ q
  unfold allD
  simp only [lof]
  rw [show (l.map fun x => D.bl (f x)) = (l.map f).map D.bl by rw [List.map_map]; rfl, bools_map]
  simp only [List.all_map]
  rfl
theorem w_any {h : Hs} {Q : D → Hs → Prop} {α : Type} {f : α → Bool} {l : List α} (q : Q (.bl (l.any f)) h) : wp (anyD [.lst (l.map fun x => D.bl (f x))] h) Q := by
  refine wp_eq ?_ q
  unfold anyD
  simp only [lof]
  rw [show (l.map fun x => D.bl (f x)) = (l.map f).map D.bl by rw [List.map_map]; rfl, bools_map]
  simp only [List.any_map]
  rfl
theorem all_str {ds : List D} (h : ds.all isStrD = true) : ∃ l : List (List Nat), ds = l.map D.str := by
  induction ds with
  | nil => exact ⟨[], rfl⟩
  | cons d r ih =>
    rw [List.all_cons, Bool.and_eq_true] at h
    obtain ⟨l, rfl⟩ := ih h.2
    cases d with
    | str s => exact ⟨s :: l, rfl⟩
    | _ => cases h.1
/-! ### errors, and comprehensions that stay -/
def we {α : Type} (r : R α) (x : Er) : Prop := ∃ v h, r = .er x v h
section
variable {env : En} {h : Hs} {x : Er} {a b : FS} {ft : FT} {fr : FA} {F : List D → RP}
theorem we_seq1 (w : we (a env h) x) : we (fSeq a b env h) x := by
  obtain ⟨v, h1, e⟩ := w
  exact ⟨v, h1, by unfold fSeq; rw [e]; rfl⟩
theorem we_seq2 (w : wp (a env h) fun fl h' => ∃ e, fl = .nx e ∧ we (b e h') x) : we (fSeq a b env h) x := by
  obtain ⟨fl, h1, e, e', rfl, v, h2, e2⟩ := w
  exact ⟨v, h2, by unfold fSeq; rw [e]; exact e2⟩
theorem we_if (w : wp (ft env h) fun c h' => c = true ∧ we (a env h') x) : we (fIfS ft a b env h) x := by
  obtain ⟨c, h1, e, rfl, v, h2, e2⟩ := w
  exact ⟨v, h2, by unfold fIfS; rw [e]; exact e2⟩
theorem we_raise {c : List Nat} {fl : List (List Nat)} (w : wp (fr env h) fun xs h1 => ∃ ds, dall (dcl h1) xs = some ds ∧ (ds.length = fl.length ∧ purs ds = true ∧ fl.length ≤ 900) ∧ x = ⟨c, fl.zip ds⟩) : we (fRaise c fl fr env h) x := by
  obtain ⟨xs, h1, e, ds, e1, e2, rfl⟩ := w
  refine ⟨env, h1, ?_⟩
  unfold fRaise
  rw [e]
  simp only [bnd_ok, e1]
  rw [if_pos e2]
theorem we_callX (w : wp (fr env h) fun xs h1 => ∃ ds, dall (dcl h1) xs = some ds ∧ F ds = .er x) : we (fCallX F fr env h) x := by
  obtain ⟨xs, h1, e, ds, e1, e2⟩ := w
  exact ⟨env, h1, callX_er e e1 e2⟩
theorem runP_we {np N : Nat} {fs : FS} {ds : List D} (hl : ds.length = np) (w : we (fs (ds.map some ++ List.replicate (N - np) none) []) x) : runP np N fs ds = .er x := by
  obtain ⟨v, h, e⟩ := w
  exact runP_er hl e
theorem heard_told {i n : Nat} {s1 c : List Nat} {its : List XIt} {fe : FE} {Q : D → Hs → Prop} (h0 : h[0]? = some Ob.tb) (w : wp (fe env h) fun d h1 => Q (.tup [.str s1, d]) h1) : wp (fHeard i n s1 c its fe env h) Q := by
  obtain ⟨d, h1, e, q⟩ := w
  refine ⟨_, h1, ?_, q⟩
  unfold fHeard
  rw [h0, e]
theorem heard_er {i n : Nat} {s1 : List Nat} {its : List XIt} {fe : FE} {Q : D → Hs → Prop} {ds : List D} (h0 : h[0]? = some Ob.tb) {v : En} {h1 : Hs} (e : fe env h = .er x v h1) (e2 : xit x its = some ds) (hl : ds.length ≤ 1000) (q : Q (.tup ds) h1) : wp (fHeard i n s1 x.cls its fe env h) Q := by
  refine ⟨_, h1, ?_, q⟩
  unfold fHeard
  rw [h0, e]
  simp only [if_true, e2]
  rw [if_pos hl]
end
theorem w_lc {m : Nat} {fr : Bn → Hs → Hs} (F : Frm m fr) {fi : FI} {fg : FG} {fc : FT} {fe : FE} {vs : List Nat} {env : En} {r : Hs} {b : Bn} {Q : D → Hs → Prop}
    (w : wp (fi env (fr b r)) fun s h1 => ∃ b1, h1 = fr b1 r ∧ ∃ (α : Type) (emb : α → D) (l : List α) (J : List α → List D → Prop), LcW fr fg fc fe s emb l (wipeE env vs) r b (fun d h => ∀ acc b', d = .lst acc → h = fr b' r → Q (.ref (r.length + m)) (fr b' (r ++ [.lst acc]))) J) : wp (fLc fi fg fc fe vs env (fr b r)) Q := by
  obtain ⟨s, h1, e, b1, rfl, α, emb, l, J, f⟩ := w
  obtain ⟨acc', b', q1, q2, q3⟩ := lcN_w F (env := wipeE env vs) f.hl f.gd f.st l [] [] b1 rfl f.j0 rfl (Nat.le_refl 0)
  refine wp_eq (a := .ref (r.length + m)) (h := fr b' (r ++ [.lst acc'])) ?_ (f.en acc' b' q2 q3 acc' b' rfl rfl)
  unfold fLc
  rw [e]
  simp only [bnd_ok]
  rw [F.len, ← F.app, f.it, q1]
  rfl
/-! ### the text -/
instance {x : D} {h : Hs} {Q : D → Hs → Prop} : Go (wp (isND x .non h) Q) (Q (.bl x.isNon) h) := ⟨fun q => wp_eq rfl q⟩
instance {x : D} {h : Hs} {Q : D → Hs → Prop} : Go (wp (notND x .non h) Q) (Q (.bl (!x.isNon)) h) := ⟨fun q => wp_eq rfl q⟩
theorem in_lst {h : Hs} {x : D} {ds : List D} {Q : D → Hs → Prop} (hx : x.nor = true) (hd : nors ds = true) (d1 : dpt x ≤ 60) (d2 : dpts ds ≤ 59) (q : Q (.bl (ds.any fun z => deq z x)) h) : wp (inD x (.lst ds) h) Q := by
  refine wp_eq ?_ q
  unfold inD inB
  simp only [dref_nor hx, dref_nor (show (D.lst ds).nor = true by rw [nor_lst]; exact hd)]
  rw [if_pos ⟨d1, d2⟩]
theorem notin_lst {h : Hs} {x : D} {ds : List D} {Q : D → Hs → Prop} (hx : x.nor = true) (hd : nors ds = true) (d1 : dpt x ≤ 60) (d2 : dpts ds ≤ 59) (q : Q (.bl (!(ds.any fun z => deq z x))) h) : wp (notInD x (.lst ds) h) Q := by
  refine wp_eq ?_ q
  unfold notInD inB
  simp only [dref_nor hx, dref_nor (show (D.lst ds).nor = true by rw [nor_lst]; exact hd)]
  rw [if_pos ⟨d1, d2⟩]
theorem dszs_bl {α : Type} (f : α → Bool) (l : List α) : dszs (l.map fun x => D.bl (f x)) = l.length := by
  induction l with
  | nil => rfl
  | cons a r ih => simp only [List.map_cons, dszs, dsz, ih, List.length_cons]; omega
theorem best_int : ∀ (l : List Nat) (x m : Nat), m ∈ x :: l → (∀ k ∈ x :: l, m ≤ k) → best dLt (.int (x : Nat)) (l.map fun n => .int (n : Nat)) = .int (m : Nat)
  | [], x, m, h1, h2 => by
    rw [List.mem_singleton.mp h1]; rfl
  | y :: l, x, m, h1, h2 => by
    have lt : dLt (.int (y : Nat)) (.int (x : Nat)) = decide (y < x) := by
      unfold dLt
      simp only [toPy]
      rw [PySem.W.dataLt_int]
      exact decide_eq_decide.mpr (by omega)
    rw [List.map_cons]
    show best dLt (if dLt (.int (y : Nat)) (.int (x : Nat)) = true then .int (y : Nat) else .int (x : Nat)) (l.map fun n => .int (n : Nat)) = _
    rw [lt]
    by_cases c : y < x
    · rw [if_pos (by simpa using c)]
      refine best_int l y m ?_ fun k hk => h2 k (List.mem_cons_of_mem _ hk)
      rcases List.mem_cons.mp h1 with rfl | h
      · have := h2 y (by simp); omega
      · exact h
    · rw [if_neg (by simpa using c)]
      refine best_int l x m ?_ fun k hk => ?_
      · rcases List.mem_cons.mp h1 with rfl | h
        · simp
        · rcases List.mem_cons.mp h with rfl | h
          · have := h2 x (by simp); have : x = m := by omega
            rw [this]; simp
          · exact List.mem_cons_of_mem _ h
      · rcases List.mem_cons.mp hk with rfl | hk
        · exact h2 k (by simp)
        · exact h2 k (by simp [hk])
theorem toPys_mem : ∀ {l : List D} {p : PyData}, p ∈ toPys l → ∃ d ∈ l, p = toPy d
  | [], p, m => by cases m
  | d :: r, p, m => by
    rcases List.mem_cons.mp m with z | z
    · exact ⟨d, List.mem_cons_self, z⟩
    · obtain ⟨x, h1, h2⟩ := toPys_mem z
      exact ⟨x, List.mem_cons_of_mem _ h1, h2⟩
theorem min_ints {h : Hs} {Q : D → Hs → Prop} {l : List Nat} {m : Nat} (h1 : m ∈ l) (h2 : ∀ k ∈ l, m ≤ k) (q : Q (.int (m : Nat)) h) : wp (minLD [.lst (l.map fun n => .int (n : Nat))] h) Q := by
  cases l with
  | nil => cases h1
  | cons x l =>
    refine wp_eq ?_ q
    unfold minLD bestD
    simp only [sqof, lof, List.map_cons]
    have mm : ∀ d ∈ D.int (x : Nat) :: l.map fun n => D.int (n : Nat), ∃ n : Nat, d = .int n := fun d m => by
      rcases List.mem_cons.mp m with rfl | m
      · exact ⟨_, rfl⟩
      · obtain ⟨n, _, rfl⟩ := List.mem_map.mp m; exact ⟨_, rfl⟩
    rw [if_pos, best_int l x m h1 h2]
    refine ⟨nors_of fun d m => ?_, ?_, ?_, ?_⟩
    · obtain ⟨n, rfl⟩ := mm d m; rfl
    · rw [dpts_zero fun d m => by obtain ⟨n, rfl⟩ := mm d m; rfl]; omega
    · intro p mp q mq
      obtain ⟨d, m1, rfl⟩ := toPys_mem mp
      obtain ⟨d', m2, rfl⟩ := toPys_mem mq
      obtain ⟨a, rfl⟩ := mm d m1
      obtain ⟨a', rfl⟩ := mm d' m2
      simp [toPy, PySem.W.alike]
    · intro p mp
      obtain ⟨d, m1, rfl⟩ := toPys_mem mp
      obtain ⟨a, rfl⟩ := mm d m1
      simp [toPy]
end PF
/-! x[::-1], x a text too -/
namespace SR
open PySem PySem.Spec PyProof.Rows L2
theorem rev_cps (x : Str) (u : Tok) : Txt.sliceBy x none none (-1, u) = ⟨x.cps.toList.reverse.toArray⟩ := by
  have e : (Txt.sliceBy x none none (-1, u)).cps.toList = x.cps.toList.reverse := by
    rw [step_rev_list]
    apply List.ext_getElem
    · simp [Str.length]
    · intro i h1 h2
      simp only [List.getElem_map, List.getElem_range, List.getElem_reverse, Array.length_toList, Array.getElem_toList]
      have hi : x.length - 1 - i < x.cps.size := by
        simp only [List.length_map, List.length_range] at h1
        unfold Str.length at *
        omega
      simp only [Array.getD, hi, dif_pos]
      rfl
  cases h : Txt.sliceBy x none none (-1, u) with
  | mk c =>
    rw [h] at e
    congr 1
    exact Array.toList_inj.mp (by simpa using e)
section
variable {X : Cx}
def kRevU (K : PySem.W.Frag) : V → Hp → VK → Prop := fun x H Q => kRev K x H Q ∨ ∃ z : Str, x = .str z ∧ z.length ≤ sizeLine ∧ Q (.str ⟨z.cps.toList.reverse.toArray⟩) H
theorem pe_revU {e st : Expr} {te ts : TE} {pos p2 : Pos} (he : PE X e te) (hst : PE X st ts) {ops : Value → Value → List Value} (hsb : ∀ v u, subscripted (.Slice none none (some st) p2) false v u = operate (ops v u) (getItem v u)) : PE X (.Subscript e (.Slice none none (some st) p2) pos) (fun σ H Q => te σ H fun x H1 => ts σ H1 fun y H2 => y = .int (-1) ∧ kRevU X.K x H2 Q) := by
  refine ⟨fun pins s σ H Q I h => ?_⟩
  refine Subscript_ (thn (he.run pins s σ H _ I h) fun v s1 ⟨x, H1, I1, r1, q1⟩ => ?_)
  refine wpAny_Slice ?_
  simp only [evalPart_none]
  refine wpAny_pure (wpAny_pure ?_)
  rw [evalPart_some]
  refine thn (hst.run pins s1 σ H1 _ I1 q1) fun u s3 ⟨y, H3, I3, r3, ey, q3⟩ => ?_
  subst ey
  obtain ⟨tk, rfl⟩ := r3
  have I4 : Inv X pins σ H3 { s3 with heap := s3.heap.push { cls := .type "slice", data := .fields #[.none, .none, .int (-1) tk] } } := I3.kept (t' := s3.toks) fun b ob q => Heap.get?_push_of_some _ q
  have hsl : Heap.IsSliceOf (s3.heap.push { cls := .type "slice", data := .fields #[.none, .none, .int (-1) tk] }) s3.heap.objs.size .none .none (.int (-1) tk) := Heap.IsSliceOf.new ..
  rcases q3 with ⟨a, xs, ex, q3⟩ | ⟨z, ex, hz, q3⟩
  · subst ex
    obtain rfl : v = Value.ref a := r1
    show wpAny (model X.prog X.w) X.A (subscriptTail e (.Slice none none (some st) p2) (.ref a) (.ref s3.heap.objs.size)) (EP X pins σ Q) X.xe { s3 with heap := s3.heap.push { cls := .type "slice", data := .fields #[.none, .none, .int (-1) tk] } }
    rcases q3 with ⟨hx, q⟩ | ⟨hx, q⟩
    · obtain ⟨its, r, ht, hz⟩ := I4.tuple hx
      refine tail_any ht.typeIs PyProof.Rows.slot_tuple_getitem.lookup (item_tup ht hsl ?_ (by rw [List.size_toArray, ← r.length]; exact hz)) (hsb _ _)
      refine ⟨.ref (s3.heap.push { cls := .type "slice", data := .fields #[.none, .none, .int (-1) tk] }).objs.size, _, I4.laid (t' := s3.toks) (o := .tup xs.reverse) (fun b ob q => Heap.get?_push_of_some _ q) (Nat.le_refl _) ?_, rfl, q _ (I4.hok.fresh (Nat.le_refl _))⟩
      exact ⟨by rw [List.length_reverse]; exact hz, _, vals_rev r, IsTup.new _ _⟩
    · obtain ⟨its, r, pl, hz⟩ := I4.list hx
      refine tail_any pl.isList.typeIs list_getitem_lookup (wpAny_getItem_list_slice (lo := none) (hi := none) (st := some (-1)) pl.isList hsl .none .none (.int (-1) tk) (by simp) ?_ (by rw [List.size_toArray, ← r.length]; exact hz)) (hsb _ _)
      rw [pick_list]
      refine ⟨.ref (s3.heap.push { cls := .type "slice", data := .fields #[.none, .none, .int (-1) tk] }).objs.size, _, I4.laid (t' := s3.toks) (o := .lst xs.reverse) (fun b ob q => Heap.get?_push_of_some _ q) (Nat.le_refl _) ?_, rfl, q _ (I4.hok.fresh (Nat.le_refl _))⟩
      exact ⟨by rw [List.length_reverse]; exact hz, _, 0, vals_rev r, Heap.get?_push_size _ rfl⟩
  · subst ex
    obtain ⟨t, rfl⟩ : ∃ t, v = Value.str z t := r1
    show wpAny (model X.prog X.w) X.A (subscriptTail e (.Slice none none (some st) p2) (.str z t) (.ref s3.heap.objs.size)) (EP X pins σ Q) X.xe { s3 with heap := s3.heap.push { cls := .type "slice", data := .fields #[.none, .none, .int (-1) tk] } }
    refine tail_any (typeIs_str _ _ _) F.slot_str_getitem.lookup (wpAny_getItem_str_slice (l := none) (u := none) (st := some (-1, tk)) ⟨_, Heap.get?_push_size _ rfl, rfl, rfl⟩ rfl (post_val_or_str ⟨Nat.le_trans (Txt.sliceBy_le z none none (-1, tk) (show (-1 : Int) ≠ 0 by decide)) hz, fun t' c => ?_⟩)) (hsb _ _)
    refine ⟨.str ⟨z.cps.toList.reverse.toArray⟩, H3, I4.kept (t' := c) fun b ob q => q, ⟨t', ?_⟩, q3⟩
    rw [← rev_cps z tk]
    rfl
end
end SR
namespace PF
open PySem PySem.Spec PyProof.Rows L2
def revU (x : D) (h : Hs) : R D := match x with
  | .str s => .ok (.str s.reverse) h
  | x => revD x h
def fRevU (fe fs : FE) : FE := fun env h => (fe env h).bnd fun x h1 => (fs env h1).bnd fun y h2 => match y with
  | .int i => if i = -1 then revU x h2 else .no
  | _ => .no
section
variable {g : G} {W : Wx}
theorem sim_revU {te ts : TE} {fe fs : FE} (he : SimE g W te fe) (hs : SimE g W ts fs) : SimE g W (fun σ H Q => te σ H fun x H1 => ts σ H1 fun y H2 => y = .int (-1) ∧ SR.kRevU g.K x H2 Q) (fRevU fe fs) := by
  intro H0 sp ι h H env σ Q R E w
  refine he H0 sp ι h H env σ _ R E (WP.bnd w fun x h1 ι1 H1 R1 S1 w1 v1 q1 => ?_)
  by_cases hx : ∃ s, x = .str s
  · obtain ⟨s, rfl⟩ := hx
    obtain ⟨rfl, l1, l2⟩ := q1.strE
    refine hs H0 sp ι1 h1 H1 env σ _ R1 (E.mono S1) (WP.bnd w1 fun y h2 ι2 H2 R2 S2 w2 v2 q2 => ?_)
    split at w2
    · obtain ⟨hc, w3⟩ := ifN w2
      have e : v2 = .int _ := q2
      subst e hc
      refine ⟨rfl, .inr ⟨mk s, rfl, by rw [mk_len, sizeLine_eq]; exact l1, ?_⟩⟩
      have : (⟨(mk s).cps.toList.reverse.toArray⟩ : Str) = mk s.reverse := by simp [mk]
      rw [this]
      exact w3.here R2 _ (.strI (by rw [List.length_reverse]; exact l1) fun c m => l2 c (List.mem_reverse.mp m))
    · exact w2.elim
  · refine hs H0 sp ι1 h1 H1 env σ _ R1 (E.mono S1) (WP.bnd w1 fun y h2 ι2 H2 R2 S2 w2 v2 q2 => ?_)
    have q3 := VR.mono S2 _ _ q1
    split at w2
    · obtain ⟨hc, w3⟩ := ifN w2
      have e : v2 = .int _ := q2
      subst e hc
      refine ⟨rfl, .inl ?_⟩
      have e2 : revU x h2 = revD x h2 := by cases x <;> first | rfl | exact absurd ⟨_, rfl⟩ hx
      rw [e2] at w3
      unfold revD at w3
      split at w3
      · obtain ⟨a, vs, rfl, p, r⟩ := q3.tupE
        refine ⟨a, vs, rfl, .inl ⟨p, fun n hn => ?_⟩⟩
        obtain ⟨x1, x2⟩ := newT R2 r.rev hn
        exact w3.at x1 _ x2
      · split at w3
        · rename_i ds e1
          obtain ⟨a, vs, rfl, p, r⟩ := lof_ok R2 q3 e1
          refine ⟨a, vs, rfl, .inr ⟨SqL.of p, fun n hn => ?_⟩⟩
          obtain ⟨x1, x2⟩ := newL R2 r.rev hn
          exact w3.at x1 _ x2
        · exact w3.elim
    · exact w2.elim
end
theorem kRevEU {X : Cx} (K) {e st : Expr} {te ts : TE} {pos p2 : Pos} (he : PE X e te) (hst : PE X st ts) (h : X.K = K := by rfl) : PE X (.Subscript e (.Slice none none (some st) p2) pos) (fun σ H Q => te σ H fun x H1 => ts σ H1 fun y H2 => y = .int (-1) ∧ SR.kRevU K x H2 Q) :=
  h ▸ SR.pe_revU he hst (ops := fun v u => [v, u]) (fun _ _ => rfl)
instance w_revU {env : En} {h : Hs} {fa fb : FE} {Q : D → Hs → Prop} : Go (wp (fRevU fa fb env h) Q) (wp (fa env h) fun x h1 => wp (fb env h1) fun y h2 => y = .int (-1) ∧ wp (revU x h2) Q) := Go.mk (fun w => wp_bnd (wp_mono w fun x h1 v => wp_bnd (wp_mono v fun y h2 v => by
  obtain ⟨rfl, v⟩ := v
  exact v)))
section
variable {h : Hs} {Q : D → Hs → Prop}
instance {s : List Nat} : Go (wp (revU (.str s) h) Q) (Q (.str s.reverse) h) := ⟨fun q => wp_ret q⟩
instance {ds : List D} : Go (wp (revU (.tup ds) h) Q) (wp (revD (.tup ds) h) Q) := ⟨fun w => w⟩
instance {ds : List D} : Go (wp (revU (.lst ds) h) Q) (wp (revD (.lst ds) h) Q) := ⟨fun w => w⟩
instance {n : Nat} : Go (wp (revU (.ref n) h) Q) (wp (revD (.ref n) h) Q) := ⟨fun w => w⟩
end
end PF
/-! ### dict comprehensions in the calculus -/
namespace PF
open PySem PySem.Spec PyProof.Rows L2 XS
structure DcW {α : Type} (fr : Bn → Hs → Hs) (fg : FG) (fc : FT) (fk fv : FE) (s : Src) (emb : α → D) (l : List α) (env : En) (r : Hs) (Q : List (D × D) → Hs → Prop) (J : List α → List (D × D) → Prop) : Prop where
  it : s.items = l.map emb
  gd : ∀ b kvs, s.good (fr b (r ++ [.dct kvs]))
  j0 : J [] []
  st : ∀ done x rest kvs b1, l = done ++ x :: rest → J done kvs → wp (fg (emb x) env (fr b1 (r ++ [.dct kvs]))) fun e h1 => wp (fc e h1) fun t h2 => cnd t (wp (fk e h2) fun y h3 => wp (fv e h3) fun z h4 => ∃ b3, h4 = fr b3 (r ++ [.dct kvs]) ∧ (keyOf y).isSome = true ∧ kvs.length < 16777216 ∧ J (done ++ [x]) (putD kvs y z)) (∃ b3, h2 = fr b3 (r ++ [.dct kvs]) ∧ J (done ++ [x]) kvs)
  en : ∀ kvs b', J l kvs → Q kvs (fr b' (r ++ [.dct kvs]))
theorem dcN_w {m : Nat} {fr : Bn → Hs → Hs} (F : Frm m fr) {α : Type} {fg : FG} {fc : FT} {fk fv : FE} {s : Src} {emb : α → D} {l : List α} {env : En} {r : Hs} {J : List α → List (D × D) → Prop} (gd : ∀ b kvs, s.good (fr b (r ++ [.dct kvs])))
    (st : ∀ done x rest kvs b1, l = done ++ x :: rest → J done kvs → wp (fg (emb x) env (fr b1 (r ++ [.dct kvs]))) fun e h1 => wp (fc e h1) fun t h2 => cnd t (wp (fk e h2) fun y h3 => wp (fv e h3) fun z h4 => ∃ b3, h4 = fr b3 (r ++ [.dct kvs]) ∧ (keyOf y).isSome = true ∧ kvs.length < 16777216 ∧ J (done ++ [x]) (putD kvs y z)) (∃ b3, h2 = fr b3 (r ++ [.dct kvs]) ∧ J (done ++ [x]) kvs)) :
    ∀ (rest done : List α) (kvs : List (D × D)) (b : Bn), l = done ++ rest → J done kvs → ∃ kvs' b', dcN fg fc fk fv s (r.length + m) env (rest.map emb) (fr b (r ++ [.dct kvs])) = .ok () (fr b' (r ++ [.dct kvs'])) ∧ J l kvs'
  | [], done, kvs, b, p, j => by
    rw [List.append_nil] at p
    subst p
    refine ⟨kvs, b, ?_, j⟩
    rw [List.map_nil]
    unfold dcN
    rw [if_pos (gd _ _)]
  | x :: rest, done, kvs, b, p, j => by
    obtain ⟨e, h1, q1, t, h2, q2, w⟩ := st done x rest kvs b p j
    rw [List.map_cons]
    unfold dcN
    rw [if_pos (gd _ _), q1]
    simp only [bnd_ok]
    rw [q2]
    simp only [bnd_ok]
    cases t with
    | false =>
      obtain ⟨b3, rfl, j'⟩ := w.2 rfl
      simp only [Bool.false_eq_true, if_false]
      exact dcN_w F gd st rest (done ++ [x]) kvs b3 (by simp [p]) j'
    | true =>
      obtain ⟨y, h3, q3, z, h4, q4, b3, rfl, hy, hl, j'⟩ := w.1 rfl
      simp only [if_true]
      rw [q3]
      simp only [bnd_ok]
      rw [q4]
      simp only [bnd_ok]
      have e1 : (fr b3 (r ++ [.dct kvs]))[r.length + m]? = some (.dct kvs) := by
        rw [F.app, List.getElem?_append_right (by rw [F.len]; omega), F.len]; simp
      obtain ⟨k, hk⟩ := Option.isSome_iff_exists.mp hy
      rw [e1, hk]
      simp only []
      rw [if_pos hl]
      have e2 : (fr b3 (r ++ [.dct kvs])).set (r.length + m) (.dct (putD kvs y z)) = fr b3 (r ++ [.dct (putD kvs y z)]) := by
        rw [F.app, F.app, List.set_append_right _ _ (by rw [F.len]; omega), F.len]; simp
      rw [e2]
      exact dcN_w F gd st rest (done ++ [x]) (putD kvs y z) b3 (by simp [p]) j'
theorem w_dc {m : Nat} {fr : Bn → Hs → Hs} (F : Frm m fr) {fi : FI} {fg : FG} {fc : FT} {fk fv : FE} {vs : List Nat} {env : En} {r : Hs} {b : Bn} {Q : D → Hs → Prop}
    (w : wp (fi env (fr b r)) fun s h1 => ∃ b1, h1 = fr b1 r ∧ ∃ (α : Type) (emb : α → D) (l : List α) (J : List α → List (D × D) → Prop), DcW fr fg fc fk fv s emb l (wipeE env vs) r (fun _ h => Q (.ref (r.length + m)) h) J) : wp (fDc fi fg fc fk fv vs env (fr b r)) Q := by
  obtain ⟨s, h1, e, b1, rfl, α, emb, l, J, f⟩ := w
  obtain ⟨kvs', b', q1, q2⟩ := dcN_w F (env := wipeE env vs) f.gd f.st l [] [] b1 rfl f.j0
  refine wp_eq (a := .ref (r.length + m)) (h := fr b' (r ++ [.dct kvs'])) ?_ (f.en kvs' b' q2)
  unfold fDc
  rw [e]
  simp only [bnd_ok]
  rw [F.len, ← F.app, f.it, q1]
  rfl
/-- keys of a dict that text keys were put in -/
theorem put_keys {kvs : List (D × D)} {ks : List (List Nat)} (e : kvs.map Prod.fst = ks.map D.str) (s : List Nat) (z : D) : (putD kvs (.str s) z).map Prod.fst = (if s ∈ ks then ks else ks ++ [s]).map D.str := by
  have a : (kvs.any fun p => keqD p.1 (.str s)) = decide (s ∈ ks) := by
    rw [Bool.eq_iff_iff, List.any_eq_true, decide_eq_true_eq]
    constructor
    · rintro ⟨p, m, q⟩
      have m1 : p.1 ∈ ks.map D.str := by rw [← e]; exact List.mem_map.mpr ⟨p, m, rfl⟩
      obtain ⟨x, m2, ex⟩ := List.mem_map.mp m1
      rw [← ex] at q
      have : x = s := by simpa [keqD, keyOf, mk] using q
      rw [← this]; exact m2
    · intro m
      have m1 : D.str s ∈ kvs.map Prod.fst := by rw [e]; exact List.mem_map.mpr ⟨s, m, rfl⟩
      obtain ⟨p, m2, ep⟩ := List.mem_map.mp m1
      exact ⟨p, m2, by rw [ep]; simp [keqD, keyOf, mk]⟩
  unfold putD
  rw [a]
  by_cases h : s ∈ ks
  · rw [if_pos (by simpa using h), if_pos h, List.map_map, ← e]
    congr 1
    funext p
    show (if keqD p.1 (.str s) = true then (p.1, z) else p).1 = p.1
    split <;> rfl
  · rw [if_neg (by simpa using h), if_neg h, List.map_append, List.map_append, e]
    rfl
/-- the keys in the order of their first putting in -/
def fk (l : List (List Nat)) : List (List Nat) := l.foldl (fun ks s => if s ∈ ks then ks else ks ++ [s]) []
theorem fk_snoc (l : List (List Nat)) (s : List Nat) : fk (l ++ [s]) = if s ∈ fk l then fk l else fk l ++ [s] := by unfold fk; rw [List.foldl_append]; rfl
theorem fk_ok (l : List (List Nat)) : (fk l).Nodup ∧ (∀ x, x ∈ fk l ↔ x ∈ l) ∧ (fk l).length ≤ l.length := by
  have : ∀ r : List (List Nat), (fk r.reverse).Nodup ∧ (∀ x, x ∈ fk r.reverse ↔ x ∈ r.reverse) ∧ (fk r.reverse).length ≤ r.reverse.length := fun r => by
    induction r with
    | nil => exact ⟨List.nodup_nil, fun x => Iff.rfl, Nat.le_refl _⟩
    | cons a r ih =>
      obtain ⟨h1, h2, h3⟩ := ih
      rw [List.reverse_cons, fk_snoc]
      split
      · rename_i c
        refine ⟨h1, fun x => ?_, by simp only [List.length_append, List.length_singleton]; omega⟩
        rw [List.mem_append, List.mem_singleton, ← h2]
        exact ⟨.inl, fun z => z.elim id fun z => by rw [z]; exact c⟩
      · rename_i c
        refine ⟨?_, fun x => ?_, by simp only [List.length_append, List.length_singleton]; omega⟩
        · rw [List.nodup_append]
          exact ⟨h1, by simp, fun x m y m2 z => c (by rw [List.mem_singleton.mp m2] at z; rw [← z]; exact m)⟩
        · rw [List.mem_append, List.mem_append, List.mem_singleton, h2]
  have := this l.reverse
  rwa [List.reverse_reverse] at this
theorem fk_sort (l : List (List Nat)) : (fk l).mergeSort sLe = canonL l := canon_of (fk_ok l).1 (fk_ok l).2.1
end PF
/-! l.count(x), l.remove(x) of plain data -/
namespace RC
open PySem PySem.Spec PyProof.Rows L2
def rCntD (K : PySem.W.Frag) : V → List V → Hp → VK → Prop := fun x xs H Q => ∃ (a : Addr) (y : V) (vs : List V) (d : PyData) (ds : List PyData), x = .ref a ∧ xs = [y] ∧ SqL K H a vs ∧ DpAll K H vs ds ∧ Dp K H y d ∧ PyData.plainAll ds = true ∧ d.plain = true ∧ PyData.depthAll ds ≤ 60 ∧ Q (.int ((ds.countP fun z => PyData.eqv z d : Nat) : Int)) H
def rRemD (K : PySem.W.Frag) : V → List V → Hp → VK → Prop := fun x xs H Q => ∃ (a : Addr) (y : V) (vs : List V) (d : PyData) (ds : List PyData) (j : Nat), x = .ref a ∧ xs = [y] ∧ H a = some (.lst vs) ∧ DpAll K H vs ds ∧ Dp K H y d ∧ PyData.plainAll ds = true ∧ d.plain = true ∧ PyData.depthAll ds ≤ 60 ∧ PySem.SeqAt.dataPlace ds d = some j ∧ Q .non (upd H a (.lst (vs.eraseIdx j)))
theorem mt_cntD {X : Cx} (hu : X.A.units + 65 < cLine) : MtR X "list.count" (rCntD X.K) := by
  intro pins s σ H x xs v us Q I rx rxs h
  obtain ⟨a, y, vs, d, ds, rfl, rfl, hs, hd, hy, p1, p2, p3, q⟩ := h
  cases rx
  obtain ⟨u, rfl, ru⟩ := rxs.one
  obtain ⟨its, rv, p, hz⟩ := I.list hs
  obtain ⟨as, rs⟩ := Dp.readsAll I _ _ _ hd rv
  obtain ⟨bs, r1⟩ := Dp.reads I d y u hy ru
  exact PySem.SeqAt.count_list_data p.isList (by simpa using rs) r1 p1 p2 (by omega) ⟨.int _, H, I.tok _, ⟨s.toks, rfl⟩, q⟩
theorem mt_remD {X : Cx} (hu : X.A.units + 65 < cLine) : MtM X "list.remove" (rRemD X.K) := by
  intro pins s σ H x xs v us Q I rx rxs h
  obtain ⟨a, y, vs, d, ds, j, rfl, rfl, hH, hd, hy, p1, p2, p3, hj, q⟩ := h
  cases rx
  obtain ⟨u, rfl, ru⟩ := rxs.one
  obtain ⟨z, its, n, r, hl, e⟩ := I.lstM hH
  obtain ⟨as, rs⟩ := Dp.readsAll I _ _ _ hd r
  obtain ⟨bs, r1⟩ := Dp.reads I d y u hy ru
  refine PySem.SeqAt.remove_list_data (vs := its.toArray) ⟨_, e, rfl, n, rfl⟩ (by simpa using rs) r1 p1 p2 (by omega) hj (by rw [List.size_toArray]; omega) ?_
  have rr := r.eraseIdx j
  refine ⟨.non, _, I.lset (its' := its.eraseIdx j) (t' := s.toks) hH e ?_ rr ?_, rfl, q⟩
  · show its.toArray.eraseIdxIfInBounds j = (its.eraseIdx j).toArray
    rw [List.eraseIdxIfInBounds_toArray]
  · have := List.length_eraseIdx_le vs j
    omega
end RC
/-! sorted(t), t a tuple of plain data -/
namespace SD
open PySem PySem.Spec PyProof.Rows L2
open PySem.W (EachIs AllAlike Sortable dataLe copyHeap copyHeap_at sortingHeap sorting_copy_old SortsAt sortVals_data sortVals_length sortVals)
section
variable {prog : Program} {w : World} {A : Around} {E : Value → Shared → Prop} {s : Shared}
/-- the items of a tuple in a new list, as `sorted` gathers them -/
theorem gather_tup {l : Addr} {vs : List Value} {Q : List Value → Shared → Prop} (hl : IsTup s.heap l vs.toArray) (hsz : vs.length ≤ sizeLine)
    (h : Q vs { s with heap := (s.heap.push (seqObj "list" #[] 0)).update s.heap.objs.size (Obj.mapSeq (· ++ vs.toArray)) }) : wpAny (model prog w) A (collect (.ref l)) Q E s := by
  obtain ⟨o, ho, hc, n, hd⟩ := id hl
  have ho' : (s.heap.push (seqObj "list" #[] 0)).get? l = some o := Heap.get?_push_of_some _ ho
  have hnew : (s.heap.push (seqObj "list" #[] 0)).get? s.heap.objs.size = some (seqObj "list" #[] 0) := Heap.get?_push_size _ rfl
  have hfit : (#[] ++ vs.toArray).size ≤ sizeLine + 1 := by
    rw [Array.size_append, List.size_toArray, List.size_toArray]
    exact Nat.le_succ_of_le (by rw [List.length_nil, Nat.zero_add]; exact hsz)
  unfold collect
  refine wpAny_bind (wpAny_runValue (codeAny_builtin entry_proto_collect' ?_))
  show wpAny _ _ (do again (.builtin "list.__iadd__" ⟨[← newList [], .ref l], []⟩)) _ _ s
  refine wpAny_bind (wpAny_newList (wpAny_pure ⟨Code.quiet_builtin _ (by decide +kernel), codeAny_builtin entry_list_iadd' ?_⟩))
  show wpAny _ _ (Builtin.List.listExtendWith (.ref s.heap.objs.size) (.ref l) (.ref s.heap.objs.size)) _ _ { s with heap := s.heap.push (seqObj "list" #[] 0) }
  unfold Builtin.List.listExtendWith
  refine wpAny_bind (wpAny_typeOf (T := "tuple") ⟨o, ho', hc⟩ ?_)
  rw [if_pos (by simp)]
  refine wpAny_bind (listItems_at ho' hd (wpAny_bind (listItems_at (xs := #[]) (n := 0) hnew rfl ?_)))
  rw [if_neg (by simp)]
  refine wpAny_bind (listUpdate_at (xs := #[]) (n := 0) hnew rfl (wpAny_pure ?_) (Nat.zero_le _) hfit)
  show wpAny (model prog w) A (do
      let o ← load s.heap.objs.size
      match o.data with
      | .seq xs _ => pure xs.toList
      | _ => unsupported "internal:collect") Q E { s with heap := (s.heap.push (seqObj "list" #[] 0)).update s.heap.objs.size (Obj.mapSeq (· ++ vs.toArray)) }
  refine wpAny_bind (wpAny_load (get?_update_seq hnew _) ?_)
  show wpAny _ _ (pure ((#[] : Array Value) ++ vs.toArray).toList) Q E _
  have e : ((#[] : Array Value) ++ vs.toArray).toList = vs := by simp
  rw [e]
  exact wpAny_pure h
theorem sorted_tupD {β : Type} {vs : List Value} {bs : List β} {enc : β → PyData} {R : Value → β → Prop} {l : Addr} {Q : Value → Shared → Prop} (hl : IsTup s.heap l vs.toArray) (e : EachIs R vs bs) (er : EachIs (fun v b => ∃ as, Reads s.heap v (enc b) as) vs bs) (hal : AllAlike (bs.map enc)) (hk : Sortable (bs.map enc)) (hL : bs.length ≤ sizeLine)
    (hu : ∀ b, b ∈ bs → A.units + 2 + (enc b).depth < cLine) (h : ∀ out, out.length = bs.length → EachIs R out (bs.mergeSort (dataLe false enc)) → Q (.ref (s.heap.objs.size + 1)) { s with heap := sortedAll s.heap vs (List.toArray out) }) :
    wpAny (model prog w) A (call (.builtin "sorted") [.ref l]) Q E s := by
  have hv : vs.length ≤ sizeLine := by rw [e.length]; exact hL
  have er' : EachIs (fun v b => ∃ as, Reads (sortingHeap (copyHeap s.heap vs) (s.heap.objs.size + 1) vs) v (enc b) as) vs bs := er.mono fun _ _ ⟨as, r⟩ => ⟨as, PyProof.Rows.Reads.keeps (fun _ _ => sorting_copy_old) r⟩
  have S := SortsAt.data (prog := prog) (w := w) (A := A.in1.in1) (s := { s with heap := sortingHeap (copyHeap s.heap vs) (s.heap.objs.size + 1) vs }) (PySem.W.each_map (R := fun v d => ∃ as, Reads (sortingHeap (copyHeap s.heap vs) (s.heap.objs.size + 1) vs) v d as) enc er') hal hk (PySem.W.bound_map hu)
  have hsz : ((s.heap.push (seqObj "list" #[] 0)).update s.heap.objs.size (Obj.mapSeq (· ++ vs.toArray))).objs.size = s.heap.objs.size + 1 := by
    rw [Heap.size_update, PyProof.Rows.size_push']
  refine PyProof.Rows.call_function_entry_kw PyProof.Rows.kind_sorted PyProof.Rows.plain_sorted entry_sorted (PyProof.Rows.args_sorted1 _) ?_
  unfold Builtin.«sorted»
  refine wpAny_bind (m := checkCount "sorted" 1 1 _) (wpAny_pure (wpAny_bind (gather_tup hl hv (wpAny_bind (wpAny_newList ?_ hv)))))
  show wpAny _ _ _ _ _ { s with heap := copyHeap s.heap vs }
  rw [hsz]
  refine wpAny_bind (wpAny_holding (wpAny_call_entry_kw slot_list_sort ⟨_, copyHeap_at s.heap vs, rfl⟩ entry_list_sort ?_ (PyProof.Rows.args_list_sort _)))
  refine wpAny_mono (PySem.W.list_sort_vals (s := { s with heap := copyHeap s.heap vs }) (P := fun f s' => f = .done (.ret .none) ∧ Q (.ref (s.heap.objs.size + 1)) s') (copyHeap_at s.heap vs) S hv ⟨rfl, h _ (by rw [sortVals_length false rfl]; exact e.length) (sortVals_data false e er' hal)⟩) (fun f s' hf => ?_) fun _ _ e => e
  obtain ⟨rfl, hq⟩ := hf
  exact ⟨_, rfl, wpAny_pure ⟨_, rfl, hq⟩⟩
end
end SD
/-! the readings of count, remove, sorted of a tuple -/
namespace SD
open PySem PySem.Spec PyProof.Rows L2
open PySem.W (EachIs AllAlike Sortable dataLe)
def rSortTp (K : PySem.W.Frag) : List V → Hp → VK → Prop := fun xs H Q => ∃ (a : Addr) (bs : List (V × PyData)), xs = [V.ref a] ∧ SqT K H a (bs.map Prod.fst) ∧ (∀ p ∈ bs, Dp K H p.1 p.2) ∧ AllAlike (bs.map Prod.snd) ∧ Sortable (bs.map Prod.snd) ∧ (∀ p ∈ bs, p.2.depth ≤ 60) ∧
  ∀ q, H q = none → Q (.ref q) (upd H q (.lst ((bs.mergeSort (dataLe false Prod.snd)).map Prod.fst)))
variable {X : Cx}
theorem cr_sortedTp (hu : X.A.units + 64 < cLine) : CallR X (.builtin "sorted") (rSortTp X.K) := by
  intro pins s σ H vs us Q I r h
  obtain ⟨a, bs, rfl, hs, hd, hal, hk, hdep, q⟩ := h
  obtain ⟨its, rv, hl, hz⟩ := I.tuple hs
  rw [Vals.ref1 r]
  have e := each_pairs rv
  have er : EachIs (fun v (p : V × PyData) => ∃ as, Reads s.heap v p.2 as) its bs := by
    have go : ∀ {bs : List (V × PyData)} {its : List Value}, (∀ p ∈ bs, Dp X.K H p.1 p.2) → EachIs (fun v (p : V × PyData) => RelV p.1 v) its bs → EachIs (fun v (p : V × PyData) => ∃ as, Reads s.heap v p.2 as) its bs := by
      intro bs its hd e
      induction e with
      | nil => exact .nil
      | cons h t ih => exact .cons (Dp.reads I _ _ _ (hd _ List.mem_cons_self) h) (ih fun p m => hd p (List.mem_cons_of_mem _ m))
    exact go hd e
  have hlen : bs.length ≤ sizeLine := by rw [List.length_map] at hz; exact hz
  refine sorted_tupD (enc := Prod.snd) hl e er hal hk hlen (fun p hp => by have := hdep p hp; omega) fun out h1 h2 => ?_
  obtain ⟨ep, he'⟩ := PyProof.Rows.sortedAll_at s.heap its out.toArray
  have hlen2 : ((bs.mergeSort (dataLe false Prod.snd)).map Prod.fst).length ≤ sizeLine := by
    rw [List.length_map, List.length_mergeSort]; exact hlen
  exact ⟨.ref _, upd H (s.heap.objs.size + 1) (.lst ((bs.mergeSort (dataLe false Prod.snd)).map Prod.fst)), I.laid (t' := s.toks) (fun _ _ => PyProof.Rows.sortedAll_old) (Nat.le_succ _) ⟨hlen2, out, ep, pairs_vals h2, he'⟩, rfl, q _ (I.hok.fresh (Nat.le_succ _))⟩
end SD
namespace PF
open PySem PySem.Spec PyProof.Rows L2
open PySem.W (AllAlike Sortable dataLe)
open Classical in
noncomputable def sortedV (xs : List D) (h : Hs) : R D := match xs with
  | [.tup ds] => if nors ds = true ∧ dpts ds ≤ 60 ∧ AllAlike (ds.map toPy) ∧ Sortable (ds.map toPy) then .ok (.ref h.length) (h ++ [.lst (ds.mergeSort dLe)]) else .no
  | xs => sortedD xs h
theorem sim_sortedV {g : G} : SimC g (fun xs H Q => SD.rSortDp g.K xs H Q ∨ SD.rSortTp g.K xs H Q) sortedV := by
  intro H0 sp ι h H xs vs W Q R q w
  unfold sortedV at w
  split at w
  · rename_i ds
    refine .inr ?_
    obtain ⟨v, rfl, q1⟩ := q.oneE
    obtain ⟨a, vs, rfl, p, r⟩ := q1.tupE
    by_cases hc : nors ds = true ∧ dpts ds ≤ 60 ∧ AllAlike (ds.map toPy) ∧ Sortable (ds.map toPy)
    · rw [if_pos hc] at w
      obtain ⟨c1, c2, c3, c4⟩ := hc
      have hl := r.length
      have hz := r.zip
      have f1 : (vs.zip ds).map Prod.fst = vs := List.map_fst_zip (by omega)
      have f2 : (vs.zip ds).map Prod.snd = ds := List.map_snd_zip (by omega)
      have hm : ∀ p ∈ vs.zip ds, p.2 ∈ ds := fun p m => by rw [← f2]; exact List.mem_map_of_mem m
      have hn : ∀ p ∈ vs.zip ds, p.2.nor = true := fun p m => by
        have := c1
        rw [nors_all, List.all_eq_true] at this
        exact this _ (hm p m)
      refine ⟨a, (vs.zip ds).map fun p => (p.1, toPy p.2), rfl, ?_, ?_, ?_, ?_, ?_, ?_⟩
      · rw [List.map_map, show (Prod.fst ∘ fun p : V × D => (p.1, toPy p.2)) = Prod.fst from rfl, f1]; exact p
      · intro p' m
        obtain ⟨p0, m0, rfl⟩ := List.mem_map.mp m
        exact (VR.dp _ _ (hn _ m0) (hz _ m0)).1
      · rw [List.map_map, show (Prod.snd ∘ fun p : V × D => (p.1, toPy p.2)) = toPy ∘ Prod.snd from rfl, ← List.map_map, f2]; exact c3
      · rw [List.map_map, show (Prod.snd ∘ fun p : V × D => (p.1, toPy p.2)) = toPy ∘ Prod.snd from rfl, ← List.map_map, f2]; exact c4
      · intro p' m
        obtain ⟨p0, m0, rfl⟩ := List.mem_map.mp m
        show (toPy p0.2).depth ≤ 60
        rw [toPy_depth]
        exact Nat.le_trans (dpt_mem (hm _ m0)) c2
      · intro n hq
        have m1 : ((vs.zip ds).map fun p => (p.1, toPy p.2)).mergeSort (dataLe false Prod.snd) = ((vs.zip ds).mergeSort fun p q => dLe p.2 q.2).map fun p => (p.1, toPy p.2) := (List.map_mergeSort (f := fun p : V × D => (p.1, toPy p.2)) (r := fun p q : V × D => dLe p.2 q.2) (s := dataLe false Prod.snd) (l := vs.zip ds) fun _ _ _ _ => rfl).symm
        have m2 : ds.mergeSort dLe = ((vs.zip ds).mergeSort fun p q => dLe p.2 q.2).map Prod.snd := by
          rw [List.map_mergeSort (s := dLe) (fun _ _ _ _ => rfl), f2]
        rw [m1, List.map_map, show (Prod.fst ∘ fun p : V × D => (p.1, toPy p.2)) = Prod.fst from rfl]
        rw [m2] at w
        have r' : VRs g.K ι H (((vs.zip ds).mergeSort fun p q => dLe p.2 q.2).map Prod.snd) (((vs.zip ds).mergeSort fun p q => dLe p.2 q.2).map Prod.fst) := VRs.of_zip fun p m => hz p (List.mem_mergeSort.mp m)
        obtain ⟨x1, x2⟩ := newL R r' hq
        exact w.at x1 _ x2
    · rw [if_neg hc] at w; exact w.elim
  · exact .inl (sim_sorted H0 sp ι h H _ vs W Q R q w)
theorem kSortedV {X : Cx} (K) (hu : X.A.units + 64 < cLine) (h : X.K = K := by rfl) : CallR X (Value.builtin "sorted") (fun xs H Q => SD.rSortDp K xs H Q ∨ SD.rSortTp K xs H Q) := h ▸ (SD.cr_sortedDp hu).or (SD.cr_sortedTp hu)
/-! count, remove -/
def cntD (x : D) (xs : List D) (h : Hs) : R D := match lof h x, xs with
  | some ds, [y] => if nors ds = true ∧ y.nor = true ∧ dpts ds ≤ 60 then .ok (.int ((ds.countP fun z => deq z y : Nat) : Int)) h else .no
  | _, _ => .no
def remD (x : D) (xs : List D) (h : Hs) : R D := match own h x, xs with
  | some (n, ds), [y] => if nors ds = true ∧ y.nor = true ∧ dpts ds ≤ 60 then match ds.findIdx? fun z => deq z y with
    | some j => .ok .non (h.set n (.lst (ds.eraseIdx j)))
    | none => .no
    else .no
  | _, _ => .no
theorem toPys_map' : ∀ ds : List D, toPys ds = ds.map toPy
  | [] => rfl
  | d :: r => by rw [toPys, List.map_cons, toPys_map' r]
theorem cnt_py : ∀ {ds : List D} {y : D}, nors ds = true → y.nor = true → ((toPys ds).countP fun z => PyData.eqv z (toPy y)) = ds.countP fun z => deq z y
  | [], y, _, _ => by simp [toPys]
  | d :: ds, y, h, hy => by
    rw [nors_cons, Bool.and_eq_true] at h
    simp only [toPys, List.countP_cons]
    rw [toPy_eqv d y h.1 hy, cnt_py h.2 hy]
theorem fnd_py : ∀ {ds : List D} {y : D}, nors ds = true → y.nor = true → ((toPys ds).findIdx? fun z => PyData.eqv z (toPy y)) = ds.findIdx? fun z => deq z y
  | [], y, _, _ => by simp [toPys]
  | d :: ds, y, h, hy => by
    rw [nors_cons, Bool.and_eq_true] at h
    simp only [toPys, List.findIdx?_cons]
    rw [toPy_eqv d y h.1 hy, fnd_py h.2 hy]
theorem sim_cnt {g : G} : SimM g (RC.rCntD g.K) cntD := by
  intro H0 sp ι h H x xs vx vs W Q R qx qs w
  unfold cntD at w
  split at w
  · rename_i ds y e
    obtain ⟨⟨c1, c2, c3⟩, w⟩ := ifN w
    obtain ⟨a, us, rfl, p, r⟩ := lof_ok R qx e
    obtain ⟨v, rfl, q1⟩ := qs.oneE
    obtain ⟨d1, d2⟩ := VRs.dp _ _ c1 r
    obtain ⟨d3, d4⟩ := VR.dp _ _ c2 q1
    refine ⟨a, v, us, toPy y, toPys ds, rfl, rfl, SqL.of p, d1, d3, ?_, ?_, ?_, ?_⟩
    · exact PySem.PyData.plainAll_of_canLay0 _ d2
    · exact PySem.PyData.plain_of_canLay0 _ d4
    · rw [toPys_depth]; exact c3
    · rw [cnt_py c1 c2]
      exact w.here R _ rfl
  · exact w.elim
theorem sim_rem {g : G} : SimM g (RC.rRemD g.K) remD := by
  intro H0 sp ι h H x xs vx vs W Q R qx qs w
  unfold remD at w
  split at w
  · rename_i n ds y e
    obtain ⟨⟨c1, c2, c3⟩, w⟩ := ifN w
    split at w
    · rename_i j ej
      obtain ⟨a, us, rfl, hn, p, r⟩ := own_ok R qx e
      obtain ⟨v, rfl, q1⟩ := qs.oneE
      obtain ⟨d1, d2⟩ := VRs.dp _ _ c1 r
      obtain ⟨d3, d4⟩ := VR.dp _ _ c2 q1
      have T := putL R hn (r.erase j)
      refine ⟨a, v, us, toPy y, toPys ds, j, rfl, rfl, p, d1, d3, PySem.PyData.plainAll_of_canLay0 _ d2, PySem.PyData.plain_of_canLay0 _ d4, by rw [toPys_depth]; exact c3, ?_, w.at T _ rfl⟩
      unfold PySem.SeqAt.dataPlace
      rw [fnd_py c1 c2]
      exact ej
    · exact w.elim
  · exact w.elim
theorem kCntD {X : Cx} (K) {k : Nat} (hr : Room k X.A) (h : X.K = K := by rfl) : MtR X "list.count" (RC.rCntD K) := h ▸ RC.mt_cntD (by have := hr.un; omega)
theorem kRemD {X : Cx} (K) {k : Nat} (hr : Room k X.A) (h : X.K = K := by rfl) : MtM X "list.remove" (RC.rRemD K) := h ▸ RC.mt_remD (by have := hr.un; omega)
/-! in the calculus -/
section
variable {h h' : Hs} {Q : D → Hs → Prop}
instance g_cnt {x y : D} {ds : List D} [i : Lf h x ds] [a : NorsC ds] [b : NorC y] : Go (wp (cntD x [y] h) Q) (dpts ds ≤ 60 ∧ Q (.int ((ds.countP fun z => deq z y : Nat) : Int)) h) := ⟨fun q => by
  refine wp_eq ?_ q.2
  unfold cntD
  rw [i.e]
  simp only []
  rw [if_pos ⟨a.p, b.p, q.1⟩]⟩
theorem w_rem {n j : Nat} {ds : List D} {y : D} (i : Lk h n (.lst ds)) (a : nors ds = true) (b : y.nor = true) (hd : dpts ds ≤ 60) (e : (ds.findIdx? fun z => deq z y) = some j) (s : Sk h n (.lst (ds.eraseIdx j)) h') (q : Q .non h') : wp (remD (.ref n) [y] h) Q := by
  refine wp_eq (a := .non) (h := h') ?_ q
  unfold remD
  rw [own_ref i.e]
  simp only []
  rw [if_pos ⟨a, b, hd⟩, e]
  simp only [s.e]
end
/-! sorted texts -/
theorem dLe_str (a b : List Nat) : dLe (.str a) (.str b) = XS.sLe a b := by
  have e : dLe (.str a) (.str b) = !PySem.W.dataLt (.str (mk b)) (.str (mk a)) := rfl
  rw [e, PySem.W.dataLt_str]
  unfold XS.sLe
  rw [Bool.eq_iff_iff]
  simp [mk]
theorem sort_strs (l : List (List Nat)) : (l.map D.str).mergeSort dLe = (l.mergeSort XS.sLe).map D.str := (List.map_mergeSort (r := XS.sLe) (s := dLe) (f := D.str) (l := l) fun a _ b _ => (dLe_str a b).symm).symm
theorem alike_strs (l : List (List Nat)) : AllAlike ((l.map D.str).map toPy) ∧ Sortable ((l.map D.str).map toPy) := by
  constructor
  · intro d m d' m'
    simp only [List.map_map, List.mem_map, Function.comp] at m m'
    obtain ⟨a, _, rfl⟩ := m
    obtain ⟨b, _, rfl⟩ := m'
    rfl
  · refine .inr fun d m => ?_
    simp only [List.map_map, List.mem_map, Function.comp] at m
    obtain ⟨a, _, rfl⟩ := m
    exact ⟨(by intro z; cases z), fun xs z => by cases z⟩
section
variable {h : Hs} {Q : D → Hs → Prop} {l : List (List Nat)}
instance g_sortT : Go (wp (sortedV [.tup (l.map D.str)] h) Q) (Q (.ref h.length) (h ++ [.lst ((l.mergeSort XS.sLe).map D.str)])) := ⟨fun q => by
  refine wp_eq ?_ q
  unfold sortedV
  simp only []
  rw [if_pos ⟨nors_of_purs _ (purs_map_str' l), by rw [dpts_str]; omega, (alike_strs l).1, (alike_strs l).2⟩, sort_strs]⟩
instance g_sortL : Go (wp (sortedV [.lst (l.map D.str)] h) Q) (Q (.ref h.length) (h ++ [.lst ((l.mergeSort XS.sLe).map D.str)])) := ⟨fun q => by
  refine wp_eq ?_ q
  unfold sortedV sortedD sortedD.seqL
  simp only [lof]
  rw [if_pos ⟨nors_of_purs _ (purs_map_str' l), by rw [dpts_str]; omega, (alike_strs l).1, (alike_strs l).2⟩, sort_strs]⟩
end
theorem sort_perm (a b : List (List Nat)) : (a.mergeSort XS.sLe = b.mergeSort XS.sLe) ↔ a.Perm b := by
  constructor
  · intro e
    exact (List.mergeSort_perm a _).symm.trans (e ▸ List.mergeSort_perm b _)
  · intro p
    refine List.Perm.eq_of_pairwise (le := fun x y => XS.sLe x y = true) (fun x y _ _ h1 h2 => XS.sLe_an h1 h2) (List.pairwise_mergeSort XS.sLe_tr XS.sLe_to a) (List.pairwise_mergeSort XS.sLe_tr XS.sLe_to b) ?_
    exact (List.mergeSort_perm a _).trans (p.trans (List.mergeSort_perm b _).symm)
end PF
/-! repr, in the law alone: the guards about it are none -/
namespace PF
open PySem PySem.Spec PyProof.Rows L2
/-- a def's promise where no guard stands about the call -/
structure FnG (P : Program) (w : World) (K : PySem.W.Frag) (mg : Str → Option Value) (base : Heap) (CX : CXT) (k : Nat) (f : Addr) (fd : FuncData) (ps : List Str) (sp : Sp) : Prop where
  len : ∀ vs H Q E, sp vs H Q E → vs.length = ps.length
  run : ∀ (A : Around) (outer : List Env) (s : Shared) (H : Hp) (args : Args) (us : List Value) (vs : List V) (Q : VK) (E : XK), A.guards = some [] → Room k A → Env0 P w K mg base A outer s H → BindsTo s fd args (ps.zip us) → Vals vs us → sp vs H Q E →
    codeAny (model P w) A (.call (.ref f) args) (CR CX outer P w H s Q E) s
theorem fnG_of {CX : CXT} {P : Program} {w : World} {K : PySem.W.Frag} {mg : Str → Option Value} {base : Heap} {k : Nat} {f : Addr} {name qual : Str} {params : Arguments} {body : List Stmt} {scope : Scope} {dV kV doc pm cdv ct oc : Value} {an od : Option Addr}
    {osl : Array (Option Value)} {N ps : List Str} {sp : Sp} (lk : K.lookup f = some ⟨oc, od, .func (PySem.W.fnOf name qual params body scope dV kV doc pm an cdv ct), osl⟩) (hcd : PySem.W.codeIn K cdv qual = true) (S : FnScope N ps scope)
    (len : ∀ vs H Q E, sp vs H Q E → vs.length = ps.length)
    (hbody : ∀ (A : Around) (outer : List Env) (s : Shared) (H : Hp) (vs : List V) (Q : VK) (E : XK), A.guards = some [] → Room k (A.deeper (envOfC qual scope s.heap.objs.size f cdv)) → sp vs H Q E →
      ∃ t, PSs (cxOf CX P w K mg base N qual scope f cdv A outer s H E) body t ∧ t { nx := fun _ H' => Q .non H', rt := Q } (start N vs) H) :
    FnG P w K mg base CX (k + 1) f (PySem.W.fnOf name qual params body scope dV kV doc pm an cdv ct) ps sp := by
  refine ⟨len, ?_⟩
  intro A outer s H args us vs Q E hg hr e0 hb r hsp
  have keep : ∀ b o, base.get? b = some o → s.heap.get? b = some o := fun b o e => (e0.bs b o e).1
  obtain ⟨t, ht, hq⟩ := hbody A outer s H vs Q E hg (hr.deeper _) hsp
  refine codeAny_call_function hr.depth ((e0.mod.kin.keeps keep) _ _ lk) rfl S.co S.gen rfl (PySem.W.codeRec_of (e0.mod.kin.keeps keep) hcd) (hb _ _ _ _ ?_)
  refine wpAny_newFunctionEnv_cells S.kind (fun y hy => ?_) fun env he s1 x => ?_
  · rcases S.par y.1 (List.of_mem_zip (show (y.1, y.2) ∈ ps.zip us from hy)).1 with q | q
    · exact .inl q
    · exact .inr ⟨q, PySem.W.cellsFrom_some _ _ _ (.inl q)⟩
  · subst he
    refine ⟨(e0.mod.nolimit.keeps keep).keeps x.toInCall.keep, codeAny_func ?_⟩
    have I : Inv (cxOf CX P w K mg base N qual scope f cdv A outer s H E) [] (start N vs) H s1 := inv_start S hr.hd e0 (len _ _ _ _ hsp) r x
    refine wpAny_mono (ht.run [] s1 (start N vs) H _ I hq) (fun fl s' hs => ?_) fun e s' hs => hs
    cases fl with
    | ret u =>
      obtain ⟨v, σ', H', J, rv, q⟩ := hs
      exact ⟨v, H', J.os, J.bare, J.base, J.hok, rv, q⟩
    | next =>
      obtain ⟨σ', H', J, q⟩ := hs
      exact ⟨V.non, H', J.os, J.bare, J.base, J.hok, rfl, q⟩
    | brk =>
      obtain ⟨_, _, _, q⟩ := hs
      exact q.elim
    | cont =>
      obtain ⟨_, _, _, q⟩ := hs
      exact q.elim
/-- what stands at the law's call: an abstract heap that knows the script at most -/
theorem head_env {P : Program} {w : World} {K : PySem.W.Frag} {mg mb : Str → Option Value} {a : Addr} {s : Shared} {vs : List Value} {ns : List Int} (KX : K.In s.heap) (hns : s.heap.Ns mainGlobals mg) (hb : s.heap.Ns builtinsNs mb) (hbb : ∀ x : Str, x ≠ "__name__" → mb x = bootBuiltins x) (hlim : s.heap.NoLimit) (hg : s.gens = #[])
    (ha : s.heap.get? a = some { cls := .type "list", data := .seq vs.toArray }) (hi : IntsAre vs ns) (hl : ns.length ≤ sizeLine) :
    ∃ H : Hp, SqL K H a (ns.map V.int) ∧ K.In (hidT s.heap H) ∧ (hidT s.heap H).Ns mainGlobals mg ∧ Env0 P w K mg (hidT s.heap H) callerA [] s H ∧ ∀ (H' : Hp) (h' : Heap), Un (frs []) [] H H' s.heap h' → HOk P w H' h' → OldK s.heap h' := by
  have rv := vals_ints hi
  have lenV := hi.length
  obtain ⟨H, hH, hS⟩ : ∃ H : Hp, (∀ b, H b = none ∨ (b = a ∧ K.lookup a = none ∧ H b = some (.frz { cls := .type "list", data := .seq vs.toArray } (.lst (ns.map V.int))))) ∧ SqL K H a (ns.map V.int) := by
    cases hk : K.lookup a with
    | none => exact ⟨fun b => if b = a then some (.frz { cls := .type "list", data := .seq vs.toArray } (.lst (ns.map V.int))) else none, fun b => by
        by_cases c : b = a
        · exact .inr ⟨c, rfl, if_pos c⟩
        · exact .inl (if_neg c), .inl (.inr ⟨_, if_pos rfl⟩)⟩
    | some o =>
      have e := KX a o hk
      rw [ha] at e
      cases e
      exact ⟨fun _ => none, fun _ => .inl rfl, .inr ⟨_, vs.toArray, _, hk, rfl, rfl, rfl, by rw [List.size_toArray, lenV]; exact hl, by simpa using rv⟩⟩
  have offK : ∀ b o, K.lookup b = some o → H b = none := fun b o e => by
    rcases hH b with z | ⟨rfl, z, _⟩
    · exact z
    · rw [z] at e; cases e
  have offD : ∀ b o es ep, s.heap.get? b = some o → o.data = .dict es ep → H b = none := fun b o es ep e d => by
    rcases hH b with z | ⟨rfl, _, _⟩
    · exact z
    · rw [ha] at e
      cases e
      cases d
  have nsK : ∀ {b : Addr} {m : Str → Option Value}, s.heap.Ns b m → (hidT s.heap H).Ns b m := fun {b m} ⟨o, es, ep, e, d, r⟩ => ⟨o, es, ep, hidT_get e (offD b o es ep e d), d, r⟩
  have hKb : K.In (hidT s.heap H) := fun b o e => hidT_get (KX b o e) (offK b o e)
  have hok : HOk P w H s.heap := fun b u e => by
    rcases hH b with z | ⟨rfl, _, z⟩
    · rw [z] at e; cases e
    · rw [z] at e
      cases e
      exact ⟨ha, by rw [List.length_map]; exact hl, vs, _, rv, ha⟩
  obtain ⟨mc, l1, l2⟩ := hlim
  refine ⟨H, hS, hKb, nsK hns, ⟨rfl, ⟨hKb, nsK hns, ⟨mb, nsK hb, hbb⟩, ⟨mc, nsK l1, l2⟩⟩, fun b o e => of_hidT e, Nat.le_of_eq (hidT_size _ _), trivial, fun b hb => (by cases hb), hok, .of_eq hg⟩, fun H' h' un hok' => OldK.of_keep fun b o e => ?_⟩
  rcases hH b with z | ⟨_, _, z⟩
  · exact un.keep b o e z (by intro q; cases q) (by simp)
  · obtain ⟨e2, _⟩ := hok' b _ (un.frzs b _ _ z)
    obtain ⟨e1, _⟩ := hok b _ z
    rw [e] at e1
    cases e1
    exact e2
theorem walk_ofG {l : PySem.W.OpenLaw} {n k : Nat} {q : Program} {loose : List Str} {XP : (Str → Option Value) → Heap → Prop} {YP : World → Heap → Prop} {d : DefRec} {K : Params → PySem.W.Frag} {sp : World → Sp} {x : Str}
    (hn : l.most = some n) (hn2 : n ≤ sizeLine) (hdf : d.params.defaults = []) (hr : Room k callerA) (hY : ∀ (w : World) (h : Heap), YP w h → (K w.params).In h)
    (F : ∀ (w : World) (mg : Str → Option Value) (fa : Addr) (h : Heap), (K w.params).In h → h.Ns mainGlobals mg → mg d.name = some (.ref fa) →
      ∃ fd : FuncData, (∀ (s : Shared) (u : Value), BindsTo s fd ⟨[u], []⟩ [(x, u)]) ∧ ∀ base : Heap, (K w.params).In base → base.Ns mainGlobals mg → FnG l.prog w (K w.params) mg base CX0 k fa fd [x] (sp w))
    (hsp : ∀ (w : World) (H : Hp) (a : Addr) (ns : List Int), ns.length ≤ n → SqL (K w.params) H a (ns.map V.int) → sp w [.ref a] H (fun v _ => v = .bl true) fun _ _ _ => False) :
    PySem.W.WalkO q loose XP YP l.row.toRowW d [] (fun f vs => PySem.call f vs) := by
  refine Att.attach_call hn hdf fun w s₀ s₁ mg mb fa o pm cd doc a vs ns G Y ho hd hcd hmg hobj hints hlen hg => ?_
  have KX := hY w _ Y
  obtain ⟨fd, hb, hF⟩ := F w mg fa _ KX G.T.g hmg
  obtain ⟨H, hS, k1, k2, e0, old⟩ := head_env (P := l.prog) (w := w) KX G.T.g G.T.b G.T.builtins G.T.nolimit hg hobj hints (Nat.le_trans hlen hn2)
  refine codeAny_mono ((hF _ k1 k2).run callerA [] s₁ H ⟨[.ref a], []⟩ [.ref a] [.ref a] _ _ rfl hr e0 (hb s₁ (.ref a)) (.cons rfl .nil) (hsp w H a ns hlen hS)) fun r s' h => ?_
  cases r with
  | error e => exact False.elim h
  | ok fl =>
    cases fl with
    | ret u =>
      obtain ⟨v, H', os, bare, un, hok', r', q⟩ := h
      have q' : v = .bl true := q
      subst q'
      obtain rfl : u = Value.bool true := r'
      exact ⟨rfl, old H' _ un hok', os, bare⟩
    | next => exact False.elim h
    | brk => exact False.elim h
    | cont => exact False.elim h
end PF
namespace RG
open PySem PySem.Spec PyProof.Rows L2
def rRepr (K : PySem.W.Frag) : List V → Hp → VK → Prop := fun xs H Q => ∃ (a : Addr) (d : PyData), xs = [V.ref a] ∧ Dp K H (.ref a) d ∧ d.showable = true ∧ d.hasDict = false ∧ d.depth ≤ 60 ∧ d.shown.length ≤ sizeLine ∧ Q (.str d.shown) H
theorem cr_repr {X : Cx} (hg : X.A.guards = some []) (hu : X.A.units + 64 < cLine) : CallR X (.builtin "repr") (rRepr X.K) := by
  intro pins s σ H vs us Q I r h
  obtain ⟨a, d, rfl, hd, hs, hn, hdep, hl, q⟩ := h
  rw [Vals.ref1 r]
  obtain ⟨as, rd⟩ := Dp.reads I _ _ _ hd (rfl : RelV (.ref a) (.ref a))
  exact repr_of_reads' rd hs (fun z => by rw [hn] at z; cases z) hg (by omega) (fun b o e => e) (fun h' u tk hk => ⟨.str d.shown, H, I.kept hk, ⟨u, rfl⟩, q⟩) hl
end RG
namespace PF
open PySem PySem.Spec PyProof.Rows L2
def isSq : D → Bool
  | .tup _ => true
  | .lst _ => true
  | _ => false
def rpOk (d : D) : Prop := d.nor = true ∧ isSq d = true ∧ dpt d ≤ 60 ∧ (toPy d).showable = true ∧ (toPy d).shown.length ≤ 16777216 ∧ ∀ c ∈ (toPy d).shown.cps.toList, c < 1114112
def rpL (d : D) : List Nat := (toPy d).shown.cps.toList
open Classical in
noncomputable def reprD (xs : List D) (h : Hs) : R D := match xs with
  | [x] => match dref h 6 x with
    | some d => if rpOk d then .ok (.str (rpL d)) h else .no
    | none => .no
  | _ => .no
theorem sim_repr {g : G} : SimC g (RG.rRepr g.K) reprD := by
  intro H0 sp ι h H xs vs W Q R q w
  unfold reprD at w
  split at w
  · rename_i x
    obtain ⟨v, rfl, q1⟩ := q.oneE
    cases e : dref h 6 x with
    | none => rw [e] at w; exact w.elim
    | some d =>
      rw [e] at w
      simp only [] at w
      by_cases hc : rpOk d
      · rw [if_pos hc] at w
        obtain ⟨c1, c2, c3, c4, c5, c6⟩ := hc
        have q2 := dref_nil R q1 e
        obtain ⟨d1, d2⟩ := VR.dp _ _ c1 q2
        have hv : ∃ a, v = .ref a := by
          cases d with
          | tup ds => obtain ⟨a, vs, rfl, _⟩ := q2.tupE; exact ⟨a, rfl⟩
          | lst ds => obtain ⟨a, vs, e, _⟩ := q2; exact ⟨a, e⟩
          | _ => cases c2
        obtain ⟨a, rfl⟩ := hv
        refine ⟨a, toPy d, rfl, d1, c4, PyData.hasDict_of_canLay _ d2, by rw [toPy_depth]; exact c3, c5, ?_⟩
        refine w.here R _ ?_
        have : VR g.K ι H (.str (rpL d)) (.str (mk (rpL d))) := VR.strI (by unfold rpL; exact c5) c6
        exact this
      · rw [if_neg hc] at w; exact w.elim
  · exact w.elim
theorem kRepr {X : Cx} (K) {k : Nat} (hg : X.A.guards = some []) (hr : Room k X.A) (h : X.K = K := by rfl) : CallR X (Value.builtin "repr") (RG.rRepr K) := h ▸ RG.cr_repr hg (by have := hr.un; omega)
/-! the text's size -/
def vS (s : Str) : Prop := ∀ c ∈ s.cps.toList, c < 1114112
theorem vS_of (s : String) : vS (s : Str) := by
  intro c m
  have e : ((s : Str)).cps.toList = s.toList.map Char.toNat := by
    show (Str.ofString s).cps.toList = _
    rw [Str.ofString_eq_toList]
  rw [e] at m
  obtain ⟨x, _, rfl⟩ := List.mem_map.mp m
  have := x.valid
  unfold UInt32.isValidChar Nat.isValidChar at this
  show x.val.toNat < 1114112
  omega
theorem len_of (s : String) : ((s : Str)).length = s.toList.length := by
  show (Str.ofString s).cps.size = _
  rw [Str.ofString_eq_toList]
  simp
theorem vS_app {a b : Str} (x : vS a) (y : vS b) : vS (a ++ b) := by
  intro c m
  have e : (a ++ b).cps.toList = a.cps.toList ++ b.cps.toList := Array.toList_append
  rw [e] at m
  rcases List.mem_append.mp m with m | m
  · exact x c m
  · exact y c m
theorem len_app (a b : Str) : (a ++ b).length = a.length + b.length := Array.size_append
def lsz : List Str → Nat
  | [] => 0
  | x :: r => x.length + 2 + lsz r
theorem join_ok : ∀ ts : List Str, (∀ t ∈ ts, vS t) → vS (Str.join ", " ts) ∧ (Str.join ", " ts).length ≤ lsz ts
  | [], _ => ⟨fun c m => (by cases m), Nat.zero_le _⟩
  | [x], h => ⟨h x (by simp), by show x.length ≤ x.length + 2 + 0; omega⟩
  | x :: y :: r, h => by
    obtain ⟨h1, h2⟩ := join_ok (y :: r) fun t m => h t (List.mem_cons_of_mem _ m)
    refine ⟨vS_app (vS_app (h x (by simp)) (vS_of _)) h1, ?_⟩
    show (x ++ (", " : Str) ++ Str.join ", " (y :: r)).length ≤ _
    rw [len_app, len_app, len_of]
    show x.length + 2 + _ ≤ x.length + 2 + lsz (y :: r)
    omega
theorem from_ok : ∀ (ts : List Str) (k : Nat) (acc : Str), vS acc → (∀ t ∈ ts, vS t) → vS (textFrom k acc ts) ∧ (textFrom k acc ts).length ≤ acc.length + lsz ts
  | [], k, acc, ha, _ => ⟨ha, Nat.le_refl _⟩
  | t :: ts, k, acc, ha, h => by
    obtain ⟨h1, h2⟩ := from_ok ts (k + 1) (acc ++ (if k > 0 then ", " else "" : String) ++ t) (vS_app (vS_app ha (vS_of _)) (h t (by simp))) fun t m => h t (List.mem_cons_of_mem _ m)
    refine ⟨h1, Nat.le_trans h2 ?_⟩
    rw [len_app, len_app, len_of]
    have : (if k > 0 then ", " else "" : String).toList.length ≤ 2 := by split <;> decide
    show _ ≤ acc.length + (t.length + 2 + lsz ts)
    omega
theorem rc_small : ∀ c : Fin 128, (Builtin.Str.reprChar 34 c.val).length ≤ 4 ∧ (Builtin.Str.reprChar 39 c.val).length ≤ 4 := by decide +kernel
theorem rc_val {q c : Nat} (hq : q < 1114112) (hc : c < 1114112) : ∀ x ∈ Builtin.Str.reprChar q c, x < 1114112 := by
  have hx : ∀ w : Nat, ∀ x ∈ (List.replicate (w - ((Nat.toDigits 16 c).map Char.toNat).length) 48 ++ (Nat.toDigits 16 c).map Char.toNat), x < 1114112 := fun w x m => by
    rcases List.mem_append.mp m with m | m
    · rw [(List.mem_replicate.mp m).2]; omega
    · obtain ⟨y, _, rfl⟩ := List.mem_map.mp m
      have := y.valid
      unfold UInt32.isValidChar Nat.isValidChar at this
      show y.val.toNat < 1114112
      omega
  intro x m
  unfold Builtin.Str.reprChar at m
  simp only [] at m
  repeat' split at m
  all_goals (simp only [List.mem_append, List.mem_cons, List.not_mem_nil, or_false] at m)
  all_goals first
    | omega
    | (rcases m with m | m
       · omega
       · exact hx _ x (by simpa only [List.mem_append] using m))
theorem text_ok (s : List Nat) (h : ∀ c ∈ s, c < 128) : vS (reprText (mk s)) ∧ (reprText (mk s)).length ≤ 4 * s.length + 2 := by
  have hq : reprQuote (mk s) = 34 ∨ reprQuote (mk s) = 39 := by unfold reprQuote; split <;> simp
  have go : ∀ (q : Nat), q = 34 ∨ q = 39 → ∀ (l : List Nat) (acc : Array Nat), (∀ c ∈ l, c < 128) → (∀ c ∈ acc.toList, c < 1114112) → (∀ c ∈ (l.foldl (fun out c => out ++ (Builtin.Str.reprChar q c).toArray) acc).toList, c < 1114112) ∧ (l.foldl (fun out c => out ++ (Builtin.Str.reprChar q c).toArray) acc).size ≤ acc.size + 4 * l.length := by
    intro q hq l
    induction l with
    | nil => exact fun acc _ ha => ⟨ha, Nat.le_refl _⟩
    | cons c r ih =>
      intro acc hl ha
      have hc := hl c (by simp)
      obtain ⟨h1, h2⟩ := ih (acc ++ (Builtin.Str.reprChar q c).toArray) (fun x m => hl x (List.mem_cons_of_mem _ m)) (fun x m => by
        rw [Array.toList_append] at m
        rcases List.mem_append.mp m with m | m
        · exact ha x m
        · exact rc_val (q := q) (c := c) (by omega) (by omega) x (by simpa using m))
      refine ⟨h1, Nat.le_trans h2 ?_⟩
      have e3 : (acc ++ (Builtin.Str.reprChar q c).toArray).size = acc.size + (Builtin.Str.reprChar q c).length := by rw [Array.size_append]; rfl
      have e4 : (Builtin.Str.reprChar q c).length ≤ 4 := by
        have := rc_small ⟨c, hc⟩
        rcases hq with rfl | rfl
        · exact this.1
        · exact this.2
      rw [e3, List.length_cons]
      omega
  obtain ⟨h1, h2⟩ := go _ hq s #[reprQuote (mk s)] h (fun c m => by
    have : c = reprQuote (mk s) := by simpa using m
    omega)
  have e : (mk s).cps.foldl (fun out c => out ++ (Builtin.Str.reprChar (reprQuote (mk s)) c).toArray) #[reprQuote (mk s)] = s.foldl (fun out c => out ++ (Builtin.Str.reprChar (reprQuote (mk s)) c).toArray) #[reprQuote (mk s)] := by
    rw [← Array.foldl_toList]
  unfold reprText
  rw [e]
  constructor
  · intro c m
    simp only [Array.toList_push, List.mem_append, List.mem_singleton] at m
    rcases m with m | m
    · exact h1 c m
    · omega
  · show (Array.push _ _).size ≤ _
    rw [Array.size_push]
    simp only [List.size_toArray, List.length_cons, List.length_nil] at h2
    omega
mutual
def asc : D → Bool
  | .non => true
  | .bl _ => true
  | .int i => decide (i.natAbs < 1000)
  | .str s => s.all fun c => decide (c < 128)
  | .tup ds => ascs ds
  | .lst ds => ascs ds
  | _ => false
def ascs : List D → Bool
  | [] => true
  | d :: r => asc d && ascs r
end
mutual
def rz : D → Nat
  | .str s => 4 * s.length + 2
  | .tup ds => rzs ds + 3
  | .lst ds => rzs ds + 3
  | _ => 5
def rzs : List D → Nat
  | [] => 0
  | d :: r => rz d + 2 + rzs r
end
theorem int_pos : ∀ n : Fin 1000, (toString ((n.val : Nat) : Int)).toList.length ≤ 5 ∧ (toString (-((n.val : Nat) : Int))).toList.length ≤ 5 := by decide +kernel
theorem int_len {i : Int} (h : i.natAbs < 1000) : (toString i).toList.length ≤ 5 := by
  have := int_pos ⟨i.natAbs, h⟩
  simp only [] at this
  rcases Int.natAbs_eq i with e | e
  · rw [e]; exact this.1
  · rw [e]; exact this.2
mutual
theorem shown_ok : ∀ d : D, asc d = true → vS (toPy d).shown ∧ (toPy d).shown.length ≤ rz d ∧ (toPy d).showable = true
  | .non, _ => ⟨vS_of _, by rw [show (toPy .non).shown = ("None" : Str) from rfl, len_of]; decide, rfl⟩
  | .bl b, _ => by
    cases b
    · exact ⟨vS_of _, by rw [show (toPy (.bl false)).shown = ("False" : Str) from rfl, len_of]; decide, rfl⟩
    · exact ⟨vS_of _, by rw [show (toPy (.bl true)).shown = ("True" : Str) from rfl, len_of]; decide, rfl⟩
  | .int i, h => by
    unfold asc at h
    have hi : i.natAbs < 1000 := by simpa using h
    refine ⟨vS_of _, ?_, ?_⟩
    · rw [show (toPy (.int i)).shown = ((toString i : String) : Str) from rfl, len_of]
      exact int_len hi
    · show decide (i.natAbs.log2 < 1920) = true
      rw [decide_eq_true_eq]
      by_cases z : i.natAbs = 0
      · rw [z]; decide
      · have : i.natAbs.log2 < 10 := (Nat.log2_lt z).2 (Nat.lt_of_lt_of_le hi (by decide))
        omega
  | .str s, h => by
    unfold asc at h
    have hs : ∀ c ∈ s, c < 128 := fun c m => by simpa using List.all_eq_true.mp h c m
    obtain ⟨h1, h2⟩ := text_ok s hs
    exact ⟨h1, h2, rfl⟩
  | .tup ds, h => by
    unfold asc at h
    obtain ⟨h1, h2, h3⟩ := showns_ok ds h
    obtain ⟨j1, j2⟩ := join_ok _ h1
    refine ⟨vS_app (vS_app (vS_of _) j1) (vS_of _), ?_, ?_⟩
    · rw [show (toPy (.tup ds)).shown = (("(" : Str) ++ Str.join ", " (PyData.shownAll (toPys ds)) ++ (if (PyData.shownAll (toPys ds)).length == 1 then ",)" else ")" : String)) from rfl, len_app, len_app, len_of, len_of]
      have : (if (PyData.shownAll (toPys ds)).length == 1 then ",)" else ")" : String).toList.length ≤ 2 := by split <;> decide
      have e1 : ("(" : String).toList.length = 1 := rfl
      unfold rz
      omega
    · show PyData.showableAll (toPys ds) = true
      exact h3
  | .lst ds, h => by
    unfold asc at h
    obtain ⟨h1, h2, h3⟩ := showns_ok ds h
    obtain ⟨j1, j2⟩ := from_ok _ 0 ("[" : Str) (vS_of _) h1
    refine ⟨vS_app j1 (vS_of _), ?_, ?_⟩
    · rw [show (toPy (.lst ds)).shown = (textFrom 0 ("[" : Str) (PyData.shownAll (toPys ds)) ++ (("]" : String) : Str)) from rfl, len_app, len_of]
      rw [len_of] at j2
      have e1 : ("[" : String).toList.length = 1 := rfl
      have e2 : ("]" : String).toList.length = 1 := rfl
      unfold rz
      omega
    · show PyData.showableAll (toPys ds) = true
      exact h3
  | .ref _, h => by unfold asc at h; cases h
  | .scr _, h => by unfold asc at h; cases h
  | .dct _ _, h => by unfold asc at h; cases h
theorem showns_ok : ∀ ds : List D, ascs ds = true → (∀ t ∈ PyData.shownAll (toPys ds), vS t) ∧ lsz (PyData.shownAll (toPys ds)) ≤ rzs ds ∧ PyData.showableAll (toPys ds) = true
  | [], _ => ⟨fun t m => (by cases m), Nat.le_refl _, rfl⟩
  | d :: r, h => by
    unfold ascs at h
    rw [Bool.and_eq_true] at h
    obtain ⟨h1, h2, h3⟩ := shown_ok d h.1
    obtain ⟨g1, g2, g3⟩ := showns_ok r h.2
    refine ⟨fun t m => ?_, ?_, ?_⟩
    · rcases List.mem_cons.mp (show t ∈ (toPy d).shown :: PyData.shownAll (toPys r) from m) with z | z
      · rw [z]; exact h1
      · exact g1 t z
    · show (toPy d).shown.length + 2 + lsz (PyData.shownAll (toPys r)) ≤ _
      unfold rzs
      omega
    · show ((toPy d).showable && PyData.showableAll (toPys r)) = true
      rw [h3, g3]; rfl
end
theorem rp_ok {d : D} (hn : d.nor = true) (hq : isSq d = true) (hd : dpt d ≤ 60) (ha : asc d = true) (hz : rz d ≤ 16777216) : rpOk d := by
  obtain ⟨h1, h2, h3⟩ := shown_ok d ha
  exact ⟨hn, hq, hd, h3, Nat.le_trans h2 hz, h1⟩
instance g_repr {x : D} {h : Hs} {Q : D → Hs → Prop} [i : NorC x] : Go (wp (reprD [x] h) Q) (rpOk x ∧ Q (.str (rpL x)) h) := ⟨fun q => wp_eq (by
  unfold reprD
  simp only [dref_nor i.p]
  rw [if_pos q.1]) q.2⟩
theorem defLG_ok {P : Program} {w : World} {g : G} {mg : Str → Option Value} {base : Heap} {x qual : Str} {st : Stmt} {f : Addr} {fd : FuncData} {N : List Str} {p0 : Str} {k : Nat} {fs : FS} (FF : Fun g.K x qual st f fd) (S : FnScope N [p0] (defScope st))
    (hb : ∀ (cdv : Value) (A : Around) (outer : List Env) (s : Shared) (H : Hp) (E : XK), (A.deeper (envOfC qual (defScope st) s.heap.objs.size f cdv)).guards = some [] → Room k (A.deeper (envOfC qual (defScope st) s.heap.objs.size f cdv)) → ∃ t, PSs (cxOf CX0 P w g.K mg base N qual (defScope st) f cdv A outer s H E).nox (defBody st) t ∧ SimS g W0 t fs)
    (ref : ∀ ns : List Int, ns.length ≤ 63 → ∃ h, fs (([D.scr ns].map some) ++ List.replicate (N.length - 1) none) [] = .ok (.rt (.bl true)) h) : FnG P w g.K mg base CX0 (k + 1) f fd [p0] (SpL g) := by
  have hps : 1 ≤ N.length := by have := congrArg List.length S.pre; rw [List.length_take] at this; simp at this; omega
  obtain ⟨oc, od, kV, doc, pm, an, cdv, ct, osl, rfl, lk, hcd⟩ := FF.ex
  refine fnG_of lk hcd S (fun vs H Q E h => ?_) (fun A outer s H vs Q E hg hr h => ?_)
  · obtain ⟨a, ns, rfl, _⟩ := h; rfl
  · obtain ⟨t, ht, sim⟩ := hb cdv A outer s H E hg hr
    refine ⟨t, ht.nox, ?_⟩
    obtain ⟨a, ns, rfl, q, hl, fin⟩ := h
    obtain ⟨h1, e⟩ := ref ns hl
    have R0 : Rel g.K H [] [] [] H := ⟨rfl, List.nodup_nil, fun n o z => by simp at z, fun a o z _ => z, fun a z => by simp at z, fun a z => by simp at z⟩
    have q0 : VRs g.K [] H [D.scr ns] [.ref a] := .one (by
      unfold VR
      refine ⟨a, rfl, ?_⟩
      rcases q with q | q
      · exact .inl ⟨q, by simp⟩
      · exact .inr (.inr q))
    refine sim H [] [] [] H _ (L2.start N _) _ R0 (env_start (N := N) q0 hps) ?_
    rw [show ([D.scr ns].length) = 1 from rfl, e]
    intro ι' H' R' S' v qv
    rw [show v = .bl true from qv]
    exact fin H'
end PF
/-! error classes without own __init__; except clauses without a name; f-strings -/
namespace PF
open PySem PySem.Spec PyProof.Rows L2
/-- C(), an own class without own __init__ -/
theorem pmk_own0 {X : Cx} {C : Addr} {bmB : List Value} {B newId initId : String} {x : Str} {p pos : Pos} (F : ExcBaseFacts B newId initId bmB) (q : PySem.W.excIn X.K C bmB newId = true) (gC : X.mg x = some (.ref C)) (kC : PySem.W.keepIn X.K (.ref C) = true) (r : Raises X (.ref C)) (hg : Gl X x)
    (hdb : (x == ("__debug__" : Str)) = false := by decide) : PMk X (.Call (.Name x p) [] [] pos) (fun _ H Q => Q (.ref C) none H) := by
  intro pins s σ H Q I h
  refine wpAny_Call_Name_kw (ld_glob I hg gC ?_ hdb)
  refine PySem.W.callWith_K0 I.kIn kC ?_
  show wpAny _ _ (call (.ref C) []) _ _ _
  obtain ⟨bm, N, nm, qn, bs, hdct, sn, sub, ab, col, dd, k0, k1, k2, k3, k5, mN, hC, hN, hni, T⟩ := exc_obj I.kIn q
  exact wpAny_call_exc_subT F T hC hN hni (fun h' e hm => mk_of I hm r h (I.hok.gone hm.new)) (Nat.zero_le _)
/-- what a text says of such a class -/
structure ExF0 (K : PySem.W.Frag) (er : Er → Hp → Value → Option Addr → Prop) (mg : Str → Option Value) (CL : List (List Nat × Addr)) (nm : Str) (c : List Nat) (C : Addr) : Prop where
  er : er = erR K CL
  cl : CL.lookup c = some C
  gl : mg nm = some (.ref C)
  q : PySem.W.excIn K C [.type "ValueError", .type "Exception", .type "BaseException", .type "object"] "ValueError.__new__" = true
  kp : PySem.W.keepIn K (.ref C) = true
  sb : PySem.W.subIn K (.ref C) (.type "BaseException") = some true
  ty : PySem.W.typeIn K (.ref C) = some (.type "type")
  ex : ∀ c' C', CL.lookup c' = some C' → PySem.W.exmOne K (.ref C') (.ref C) = some (decide (c' = c))
theorem kRaise0 {X : Cx} {er : Er → Hp → Value → Option Addr → Prop} {CL : List (List Nat × Addr)} {nm : Str} {c : List Nat} {C : Addr} {W : WX} {p pos pos' : Pos} (F : ExF0 X.K er X.mg CL nm c C) (hc : X.calm = true) (tk : Takes X W) (hg : Gl X nm)
    (hdb : (nm == ("__debug__" : Str)) = false := by decide) : PS X (.Raise (some (.Call (.Name nm p) [] [] pos)) none pos') (fun _ σ H => W (.ref C) none σ H) :=
  ps_raise hc tk (pmk_own0 PySem.F.excBase_ValueError F.q F.gl F.kp (raises_own F.sb F.ty) hg hdb)
def fRaise0 (c : List Nat) : FS := fun env h => .er ⟨c, []⟩ env h
section
variable {g : G} {W : Wx} {CL : List (List Nat × Addr)} {C : Addr} {c : List Nat}
theorem sim_raise0 (hE : g.er = erR g.K CL) (hC : CL.lookup c = some C) : SimS g W (fun _ σ H => W (.ref C) none σ H) (fRaise0 c) := by
  intro H0 sp ι h H env σ Z R E w
  refine w ι H (.ref C) none σ R (Stp.refl _ _) ?_ E
  rw [hE]
  exact ⟨C, hC, rfl, fun nm dt e => by cases e⟩
end
/-! ### an except clause without a name, its answer constants alone -/
def SimX0 (g : G) (C : Addr) (t : Addr → Value → Option Addr → TA) (its : List XIt) : Prop :=
  ∀ (a : Addr) (d : Option Addr) (H : Hp) (σ : L2.St) (e : Er) (Q : List V → Hp → Prop) (ds : List D), xit e its = some ds → (∀ vs, (∀ ι, VRs g.K ι H ds vs) → Q vs H) → t a (.ref C) d σ H Q
section
variable {g : G} {C : Addr} {t : Addr → Value → Option Addr → TA} {its : List XIt}
theorem simx0_nil : SimX0 g C (fun _ _ _ => tNil) [] := fun a d H σ e Q ds hx k => by
  cases hx
  exact k [] fun _ => rfl
theorem simx0_str {x : Str} (s : List Nat) (ht : SimX0 g C t its) (e : x = mk s := by decide +kernel) (hl : s.length ≤ 16777216 := by decide) (hc : ∀ c ∈ s, c < 1114112 := by decide) : SimX0 g C (fun a cls d => tCons (tC (.str x)) (t a cls d)) (.c (.str s) :: its) := fun a d H σ er Q ds hx k => by
  unfold xit at hx
  cases hr : xit er its with
  | none => rw [hr] at hx; cases hx
  | some l =>
    rw [hr] at hx
    cases hx
    refine ht a d H σ er _ l hr fun vs q => k (.str x :: vs) fun ι => .cons ?_ (q ι)
    unfold VR
    exact ⟨by rw [e], hl, hc⟩
end
def TTo (K : PySem.W.Frag) (CS : Addr) (s1 : Str) (ts : Addr → Value → Option Addr → TS) : (XK → Hp → VK → Prop) → Hp → VK → Prop := fun tl H Q =>
  tl (fun cls d H' => ∀ σ', L2.wOnly K (.ref CS) ts (fun _ _ _ _ => False) { nx := fun _ H' => Q .non H', rt := Q } cls d σ' H') H (fun v H1 => [V.str s1, v].length ≤ sizeLine ∧ ∀ p, H1 p = none → Q (.ref p) (upd H1 p (.tup [V.str s1, v])))
theorem gives3 {X : Cx} {Ng : List Str} {x a e q s1 : Str} {sg : Scope} {gA CS : Addr} {cdg : Value} {j x1 : Nat} {b₀ : Stmt} {suite : List Stmt} {ts : Addr → Value → Option Addr → TS} {p1 p2 p3 p4 p7 p8 q1 q2 : Pos}
    (hge : sg.names.lookup e = some .globalImplicit) (hme : X.mg e = some (.ref CS)) (hde : (e == ("__debug__" : Str)) = false) (h0 : ∀ f : Addr, (L2.start Ng [V.ref f])[0]? = some (some (V.ref f)))
    (hsu : ∀ (s : Shared) (H : Hp) (a : Addr) (oe : Obj) (cls : Value) (d : Option Addr) (pn : List (Addr × Obj)), Zc cls d oe → (∃ vs, oe.data = .fields vs) → PSs (((cxOf C8.CX0 X.prog X.w X.K X.mg X.base Ng x sg gA cdg X.A X.stack s H C8.E0).nox).suite a ((a, oe) :: pn)) (b₀ :: suite) (ts a cls d)) :
    LamX.GivesTo X Ng x sg gA cdg [.Try [.Return (some (.Tuple [.Constant (.str s1) j q1, .Call (.Name a p1) [] [] p2] x1 q2)) p3] [.ExceptHandler (some (.Name e p4)) none (b₀ :: suite) p7] [] [] p8] a q (TTo X.K CS s1 ts) := by
  intro f c' s H Q tl act hc h
  have hgl : Gl ((cxOf C8.CX0 X.prog X.w X.K X.mg X.base Ng x sg gA cdg X.A X.stack s H C8.E0).nox) e := hge
  refine ⟨_, pss_one (L2.ps_try_only (X := (cxOf C8.CX0 X.prog X.w X.K X.mg X.base Ng x sg gA cdg X.A X.stack s H C8.E0).nox) (c := .ref CS)
      (tb := fun W D σ H => ∃ Ech : XK, (∀ cls d σ' H', Ech cls d H' → W cls d σ' H') ∧ σ[0]? = some (some (.ref f)) ∧ H c' = some (LamX.CodeO c' q) ∧ tl Ech H (fun v H1 => [V.str s1, v].length ≤ sizeLine ∧ ∀ p, H1 p = none → D.rt (.ref p) (upd H1 p (.tup [V.str s1, v]))))
      rfl rfl ⟨hgl, hde, .inl hme⟩ LamX.takes0 (fun W pn xe tk _ => ?_) (fun a oe cls d pn h1 h2 => hsu s H a oe cls d pn h1 h2)), ?_⟩
  · refine ⟨fun pins s' σ H' D I h' => ?_⟩
    obtain ⟨Ech, hW, h1, h2, h3⟩ := h'
    have hp := act W pn xe Ech p1 p2 tk hW
    have hq := pss_one (ps_ret (pos := p3) (pe_tup (x1 := x1) (pos := q2) (pa_cons (pe_str (x := s1) (j := j) (pos := q1)) (pa_cons hp pa_nil))))
    exact hq.run pins s' σ H' D I ⟨h1, h2, h3⟩
  · exact ⟨_, fun cls d σ' H' hw => hw σ', h0 f, hc, h⟩
section
variable {g : G} {W : Wx} {CL : List (List Nat × Addr)} {C : Addr} {t : Addr → Value → Option Addr → TA} {its : List XIt} {c : List Nat}
theorem sim_heard0 {P : Addr} {te : XK → TE} {fe : FE} {x1 : Str} {s1 : List Nat} (hP : (PySem.W.tabIn g.K "law").map (·.2) = some P) (hE : g.er = erR g.K CL) (hC : ∀ c' C', CL.lookup c' = some C' → PySem.W.exmOne g.K (.ref C') (.ref C) = some (decide (c' = c))) (hc : CL.lookup c = some C)
    (hb : ∀ E : XK, SimE g (fun cls d _ H' => E cls d H') (te E) fe) (hs : SimX0 g C t its) (e1 : x1 = mk s1 := by decide +kernel) (hl1 : s1.length ≤ 16777216 := by decide) (hc1 : ∀ c ∈ s1, c < 1114112 := by decide) :
    SimE g W (tLamP P "law.<locals>.<lambda>" (TTo g.K C x1 (fun a cls d => tRet (tTup (t a cls d)))) te) (fHeard 0 1 s1 c its fe) := by
  intro H0 sp ι h H env σ Q R E w
  unfold fHeard at w
  cases h0 : h[0]? with
  | none => rw [h0] at w; exact w.elim
  | some o =>
    cases o with
    | lst ds => rw [h0] at w; exact w.elim
    | dct kvs => rw [h0] at w; exact w.elim
    | dtt kvs => rw [h0] at w; exact w.elim
    | tb =>
      rw [h0] at w
      simp only [] at w
      obtain ⟨a, i1, i2, i3⟩ := R.ob 0 _ h0
      rw [hP] at i2
      cases i2
      refine ⟨i3, fun H1 eP T1 => ?_⟩
      obtain ⟨R1, S1⟩ := R.lam h0 hP eP T1
      refine hb _ H0 sp ι h H1 env σ _ R1 (E.mono S1) ?_
      cases hf : fe env h with
      | no => rw [hf] at w; exact w
      | ok d h1 =>
        rw [hf] at w
        intro ι' H' R' S' v qv
        refine ⟨by rw [sizeLine_eq]; simp, fun p np => ?_⟩
        obtain ⟨R2, S2⟩ := R'.tmp (o := .tup [V.str x1, v]) np
        refine w ι' _ R2 ((S1.trans S').trans S2) (.ref p) (vr_tup np (.cons ?_ (.cons qv rfl)))
        unfold VR
        exact ⟨by rw [e1], hl1, hc1⟩
      | er e env1 h1 =>
        rw [hf] at w
        simp only [] at w
        intro ι' H' cls d σ' R' S' he E' σ''
        rw [hE] at he
        obtain ⟨C', h1', rfl, hfs⟩ := id he
        refine ⟨decide (e.cls = c), hC _ _ h1', fun hb' a na => ?_, fun hb' => ?_⟩
        · have ec : e.cls = c := of_decide_eq_true hb'
          rw [ec, hc] at h1'
          cases h1'
          rw [if_pos ec] at w
          cases hx : xit e its with
          | none => rw [hx] at w; exact w.elim
          | some ds =>
            rw [hx] at w
            simp only [] at w
            by_cases hl : ds.length ≤ 1000
            · rw [if_pos hl] at w
              refine hs a d H' _ e _ ds hx fun vs qv => ⟨by rw [← (qv []).length, sizeLine_eq]; omega, fun p np => ?_⟩
              obtain ⟨R2, S2⟩ := R'.tmp (o := .tup vs) np
              exact w ι' _ R2 ((S1.trans S').trans S2) (.ref p) (vr_tup np (qv ι'))
            · rw [if_neg hl] at w; exact w.elim
        · rw [if_neg (of_decide_eq_false hb')] at w
          exact w.elim
end
/-! ### f-strings of texts -/
def fFmt (fe : FE) : FE := fun env h => (fe env h).bnd fun d h1 => match d with
  | .str s => .ok (.str s) h1
  | _ => .no
def fJN : List FE → List Nat → FE
  | [], acc => fun _ h => .ok (.str acc) h
  | f :: r, acc => fun env h => (f env h).bnd fun d h1 => match d with
    | .str s => if (acc ++ s).length ≤ 16777216 then fJN r (acc ++ s) env h1 else .no
    | _ => .no
section
variable {g : G} {W : Wx} {te : TE} {fe : FE}
theorem sim_fmt (he : SimE g W te fe) : SimE g W (tFmt te) (fFmt fe) := by
  intro H0 sp ι h H env σ Q R E w
  refine he H0 sp ι h H env σ _ R E (WP.bnd w fun d h1 ι1 H1 R1 S1 w1 v q => ?_)
  cases d with
  | str s =>
    obtain ⟨rfl, h1', h2⟩ := q.strE
    exact .inl ⟨_, rfl, by show s.toArray.size ≤ _; rw [sizeLine_eq, List.size_toArray]; exact h1', w1.here R1 _ q⟩
  | _ => exact w1.elim
inductive SJ (g : G) (W : Wx) : List TE → List FE → Prop where
  | nil : SJ g W [] []
  | cons {t : TE} {f : FE} {ts : List TE} {fs : List FE} (h : SimE g W t f) (r : SJ g W ts fs) : SJ g W (t :: ts) (f :: fs)
theorem sim_jn {ts : List TE} {fs : List FE} (h : SJ g W ts fs) : ∀ acc : List Nat, acc.length ≤ 16777216 → (∀ c ∈ acc, c < 1114112) → SimE g W (fun σ H Q => tJs ts (mk acc) σ H fun out H1 => Q (.str out) H1) (fJN fs acc) := by
  induction h with
  | nil =>
    intro acc hl hc H0 sp ι h H env σ Q R E w
    exact w.here R _ (VR.strI hl hc)
  | @cons t f ts fs hf hr ih =>
    intro acc hl hc H0 sp ι h H env σ Q R E w
    refine hf H0 sp ι h H env σ _ R E (WP.bnd w fun d h1 ι1 H1 R1 S1 w1 v q => ?_)
    cases d with
    | str s =>
      obtain ⟨rfl, h1', h2⟩ := q.strE
      obtain ⟨c1, w1⟩ := ifC w1
      refine ⟨_, rfl, ?_, ?_⟩
      · rw [mk_app]
        show (acc ++ s).toArray.size ≤ _
        rw [sizeLine_eq, List.size_toArray]; exact c1
      · rw [mk_app]
        exact ih (acc ++ s) c1 (fun c m => (List.mem_append.mp m).elim (hc c) (h2 c)) H0 sp ι1 h1 H1 env σ Q R1 (E.mono S1) w1
    | _ => exact w1.elim
theorem sim_js {ts : List TE} {fs : List FE} (h : SJ g W ts fs) : SimE g W (fun σ H Q => tJs ts Str.empty σ H fun out H1 => Q (.str out) H1) (fJN fs []) := sim_jn h [] (Nat.zero_le _) fun _ m => by cases m
end
/-! in the calculus -/
section
variable {env : En} {h : Hs} {Q : D → Hs → Prop} {fe : FE} {fs : List FE} {acc : List Nat}
instance g_jnil : Go (wp (fJN [] acc env h) Q) (Q (.str acc) h) := ⟨fun q => wp_ret q⟩
instance g_jcons : Go (wp (fJN (fe :: fs) acc env h) Q) (wp (fe env h) fun d h1 => asS d fun s => (acc ++ s).length ≤ 16777216 ∧ wp (fJN fs (acc ++ s) env h1) Q) := ⟨fun w => wp_bnd (wp_mono w fun d h1 v => by
  obtain ⟨s, rfl, hl, q⟩ := v
  exact wp_if hl q)⟩
instance g_fmt : Go (wp (fFmt fe env h) Q) (wp (fe env h) fun d h1 => asS d fun s => Q (.str s) h1) := ⟨fun w => wp_bnd (wp_mono w fun d h1 v => by
  obtain ⟨s, rfl, q⟩ := v
  exact wp_ret q)⟩
end
/-! ### text.count -/
theorem count_is {s sep : List Nat} (h1 : sep ≠ []) : Txt.count (mk s) (mk sep) = ((TL.spl sep 0 [] s).length : Int) - 1 := by
  have ty : TL.tl (mk sep) = sep := by simp [TL.tl, mk]
  have tx : TL.tl (mk s) = s := by simp [TL.tl, mk]
  have hy : TL.tl (mk sep) ≠ [] := by rw [ty]; exact h1
  obtain ⟨f, g, hn⟩ := StrLaws.occ_tight (mk s) (mk sep) (TL.len1 hy)
  have key := TL.parts_spl hy _ 0 f (Nat.zero_le _) g hn
  rw [List.drop_zero, ty, tx] at key
  have := congrArg List.length key
  rw [List.length_map, ← StrLaws.partsBetween_eq, PySem.length_partsBetween] at this
  unfold Txt.count
  omega
def countSD (x : D) (xs : List D) (h : Hs) : R D := match x, xs with
  | .str s, [.str sep] => if sep ≠ [] then .ok (.int (((TL.spl sep 0 [] s).length : Int) - 1)) h else .no
  | _, _ => .no
theorem sim_countS {g : G} : SimM g (fun x xs H Q => ∃ a b, x = .str a ∧ xs = [.str b] ∧ Q (.int (Txt.count a b)) H) countSD := by
  intro H0 sp ι h H x xs vx vs W Q R qx qs w
  unfold countSD at w
  split at w
  · rename_i s sep
    obtain ⟨c, w⟩ := ifC w
    obtain ⟨rfl, _⟩ := qx.strE
    obtain ⟨v, rfl, q1⟩ := qs.oneE
    obtain ⟨rfl, _⟩ := q1.strE
    refine ⟨_, _, rfl, rfl, ?_⟩
    rw [count_is c]
    exact w.here R _ rfl
  · exact w.elim
instance g_countS {s sep : List Nat} {h : Hs} {Q : D → Hs → Prop} : Go (wp (countSD (.str s) [.str sep] h) Q) (sep ≠ [] ∧ Q (.int (((TL.spl sep 0 [] s).length : Int) - 1)) h) := ⟨fun q => wp_if q.1 (wp_ret q.2)⟩
instance g_asTyS {h : Hs} {s : List Nat} {k : Prop} : Go (asTy "str" h (.str s) k) k := ⟨fun q => ⟨rfl, q⟩⟩
end PF
/-! dict comprehensions of two clauses -/
namespace DC2
open PySem PySem.Spec PyProof.Rows L2
/-- one turn of a clause: k, what is done where the tests say so or not -/
def turn (t i : Expr) (ifs : List Expr) (k : Bool → Sem Fin) (it : Value) (env : Env) : Sem Fin := do
  standAt i.pos
  match ← pyNext it with
  | none => pure (.done .next)
  | some v =>
    letOwnedTupleGo t it v
    assign t env v
    let mut ok := true
    for c in ifs do
      if ok then ok ← isTrue c env (eval c env)
    k ok
abbrev tests (env : Env) (ifs : List Expr) : Sem Bool := forIn ifs true fun c r => if r = true then do let ok ← isTrue c env (eval c env); pure (ForInStep.yield ok) else pure (ForInStep.yield r)
section
variable {kx vx t0 i0 t1 i1 : Expr} {ifs0 ifs1 : List Expr} {scope : Scope} {pos : Pos} {it acc : Value} {D : Addr} {env : Env}
abbrev dx (kx vx t0 i0 t1 i1 : Expr) (ifs0 ifs1 : List Expr) (scope : Scope) (pos : Pos) : Expr := .DictComp kx vx [⟨t0, i0, ifs0, 0⟩, ⟨t1, i1, ifs1, 0⟩] scope pos
theorem turn0 : compTurn (dx kx vx t0 i0 t1 i1 ifs0 ifs1 scope pos) 0 it acc env = turn t0 i0 ifs0 (fun ok => do
    if ok then
      let x ← eval i1 env
      standAt i1.pos
      let x ← foldedSetIterable i1 env x
      let _ ← runOwn (.compStart (dx kx vx t0 i0 t1 i1 ifs0 ifs1 scope pos) 1 (← holding [x] (pyIter x)) acc env) env
    again (.compLoop (dx kx vx t0 i0 t1 i1 ifs0 ifs1 scope pos) 0 it acc env)) it env := by rfl
theorem turn1 : compTurn (dx kx vx t0 i0 t1 i1 ifs0 ifs1 scope pos) 1 it (.ref D) env = turn t1 i1 ifs1 (fun ok => do
    if ok then
      (do
        let kv ← eval kx env
        let vv ← holding [kv] (eval vx env)
        standAt { kx.pos with endLine := vx.pos.endLine, endCol := vx.pos.endCol }
        holding [kv, vv] (dictSet D kv vv))
    again (.compLoop (dx kx vx t0 i0 t1 i1 ifs0 ifs1 scope pos) 1 it (.ref D) env)) it env := by rfl
end
theorem wp_turn {M : Model} {A : Around} {t i : Expr} {ifs : List Expr} {k : Bool → Sem Fin} {it : Value} {env : Env} {Q : Fin → Shared → Prop} {E : Value → Shared → Prop} {s : Shared}
    (h : wpAny M A (pyNext it) (fun r s₁ => match r with
      | none => Q (.done .next) s₁
      | some v => wpAny M A (letOwnedTupleGo t it v) (fun _ s₂ => wpAny M A (assign t env v) (fun _ s₃ => wpAny M A (tests env ifs) (fun ok s₄ => wpAny M A (k ok) Q E s₄) E s₃) E s₂) E s₁) E s) : wpAny M A (turn t i ifs k it env) Q E s := by
  refine wpAny_bind (wpAny_standAt (wpAny_bind (wpAny_mono h (fun r s₁ h₁ => ?_) fun _ _ q => q)))
  cases r with
  | none => exact wpAny_pure h₁
  | some v => exact wpAny_bind (wpAny_mono h₁ (fun _ s₂ h₂ => wpAny_bind (wpAny_mono h₂ (fun _ s₃ h₃ => wpAny_bind h₃) fun _ _ q => q)) fun _ _ q => q)
/-- a turn of an iterator in a block -/
theorem one_turn {X : Cx} {s3 : Shared} {H3 : Hp} {scope : Scope} {ce : Env} {fp0 : List Addr} {tg : Expr} {ifs : List Expr} {g : TG} {tt : TT} {J : It} {fp : List Addr} {it : Addr} {tn : Nat → Heap → Prop} {i : Nat} {pins : List (Addr × Obj)} {σ : L2.St} {H : Hp} {s : Shared}
    {K : Bool → L2.St → Hp → Prop} {R0 : L2.St → Prop} {Q : Bool → Shared → Prop} {P : Shared → Prop} {E : Value → Shared → Prop} (hc : X.calm = true) (T : Turn X.prog X.w X.K tg J fp it tn) (pg : PG (X.blk s3 H3 scope ce fp0) tg g) (pt : PTs (X.blk s3 H3 scope ce fp0) ifs tt)
    (I : Inv (X.blk s3 H3 scope ce fp0) pins σ H s) (fok : ∀ {σ' : L2.St} {H' : Hp} {s' : Shared}, Inv (X.blk s3 H3 scope ce fp0) pins σ' H' s' → (∀ b ∈ fp, H' b = none) → ∀ b ∈ fp, FpOk (X.blk s3 H3 scope ce fp0) pins H' b) (n0 : ∀ b ∈ fp, H b = none) (st : tn i s.heap) (go : J.go i H)
    (step : ∀ x H', J.yld i H x H' → g x σ H' fun σ2 H2 => R0 σ2 ∧ tt σ2 H2 fun b H3 => K b σ2 H3)
    (next : ∀ (b : Bool) (pl : List (Addr × Obj)) (σ2 : L2.St) (H2 : Hp) (s2 : Shared), Inv (X.blk s3 H3 scope ce fp0) (pins ++ pl) σ2 H2 s2 → R0 σ2 → K b σ2 H2 →
      (∀ {σ' : L2.St} {H' : Hp} {s' : Shared}, Inv (X.blk s3 H3 scope ce fp0) (pins ++ pl) σ' H' s' → Inv (X.blk s3 H3 scope ce fp0) pins σ' H' s' ∧ tn (i + 1) s'.heap ∧ ∀ b ∈ fp, H' b = none) → Q b s2) :
    wpAny (model X.prog X.w) X.A (pyNext (.ref it)) (fun r s₁ => match r with
      | none => P s₁
      | some v => wpAny (model X.prog X.w) X.A (letOwnedTupleGo tg (.ref it) v) (fun _ s₂ => wpAny (model X.prog X.w) X.A (assign tg ce v) (fun _ s₃ => wpAny (model X.prog X.w) X.A (tests ce ifs) Q E s₃) E s₂) E s₁) E s := by
  refine thnF (T.item (X.blk s3 H3 scope ce fp0) rfl rfl rfl hc i pins s σ H (fun _ _ => False) I (fok I n0) st go) fun r s6 ⟨u, hr, h6⟩ => ?_
  subst hr
  refine thnF h6 fun _ s7 ⟨x, H7, I7, r7, y7, st7, n7⟩ => ?_
  refine thnF (pg.run _ s7 _ H7 x u _ (I7.pinned (fok I7 n7) (T.obj _ _ st7)) r7 (step x H7 y7)) fun _ s8 ⟨σ8, H8, I8, hw8, q8⟩ => ?_
  refine thnF (pt.run _ s8 σ8 H8 _ I8 q8) fun b s9 ⟨H9, I9, q9⟩ => next b (pinsAt fp s7.heap) σ8 H9 s9 I9 hw8 q9 fun {σ' H' s'} I' => ?_
  have pin' : ∀ b ∈ fp, ∀ o, s7.heap.get? b = some o → s'.heap.get? b = some o ∧ H' b = none := fun b hb o e =>
    ⟨(I'.pin (b, o) (List.mem_append_right _ (List.mem_append_right _ (mem_pinsAt hb e)))).1, (I'.pin (b, o) (List.mem_append_right _ (List.mem_append_right _ (mem_pinsAt hb e)))).2.1⟩
  refine ⟨I'.unpinned, T.keep _ _ _ st7 fun b hb o e => (pin' b hb o e).1, fun b hb => ?_⟩
  obtain ⟨o, e, _⟩ := T.obj _ _ st7 b hb
  exact (pin' b hb o e).2
section
variable {prog : Program} {w : World} {A : Around} {R : Result → Shared → Prop} {s : Shared} {kx vx t0 i0 t1 i1 : Expr} {ifs0 ifs1 : List Expr} {scope : Scope} {pos : Pos} {it acc : Value} {D : Addr} {env : Env}
/-- the first clause's loop -/
theorem loop0 (hs : ∀ x, foldedSetIterable i1 env x = pure x) (I : Nat → Shared → Prop) (step : ∀ n s, I n s → wpAny (model prog w) A (pyNext it) (fun r s₁ => match r with
      | none => R (.ok .next) s₁
      | some v => wpAny (model prog w) A (letOwnedTupleGo t0 it v) (fun _ s₂ => wpAny (model prog w) A (assign t0 env v) (fun _ s₃ => wpAny (model prog w) A (tests env ifs0) (fun ok s₄ =>
          if ok = true then wpAny (model prog w) A (eval i1 env) (fun x s₅ => wpAny (model prog w) A (pyIter x) (fun it1 s₆ => codeAny (model prog w) A (.compStart (dx kx vx t0 i0 t1 i1 ifs0 ifs1 scope pos) 1 it1 acc env) (fun r s' => match r with
              | .ok _ => ∃ m, m < n ∧ I m s'
              | .error _ => False) s₆) (notedBy (model prog w) A env fun e s' => R (.error e) s') s₅) (notedBy (model prog w) A env fun e s' => R (.error e) s') s₄
          else ∃ m, m < n ∧ I m s₄) (notedBy (model prog w) A env fun e s' => R (.error e) s') s₃) (notedBy (model prog w) A env fun e s' => R (.error e) s') s₂) (notedBy (model prog w) A env fun e s' => R (.error e) s') s₁) (notedBy (model prog w) A env fun e s' => R (.error e) s') s)
    (n : Nat) (h : I n s) : codeAny (model prog w) A (.compLoop (dx kx vx t0 i0 t1 i1 ifs0 ifs1 scope pos) 0 it acc env) R s := by
  refine codeAny_loop rfl I (fun n s hI => ?_) n h
  show wpAny _ A ((compTurn (dx kx vx t0 i0 t1 i1 ifs0 ifs1 scope pos) 0 it acc env).onRaise (fun x => do noteFrame x env; theTreesLotGoes x)) _ _ s
  refine wpAny_noted ?_
  rw [turn0]
  refine wp_turn (wpAny_mono (step n s hI) (fun r s₁ h₁ => ?_) fun _ _ q => q)
  cases r with
  | none => exact h₁
  | some v =>
    refine wpAny_mono h₁ (fun _ s₂ h₂ => wpAny_mono h₂ (fun _ s₃ h₃ => wpAny_mono h₃ (fun ok s₄ h₄ => ?_) fun _ _ q => q) fun _ _ q => q) fun _ _ q => q
    cases ok with
    | false => exact wpAny_pure ⟨rfl, h₄⟩
    | true =>
      refine wpAny_bind (wpAny_mono h₄ (fun x s₅ h₅ => wpAny_bind (wpAny_standAt (wpAny_bind (wpAny_of_eq (hs x) (wpAny_bind (wpAny_holding (wpAny_mono h₅ (fun it1 s₆ h₆ => ?_) fun _ _ q => q))))))) fun _ _ q => q)
      refine wpAny_bind (wpAny_runOwn ?_)
      rw [Around.mark_none]
      refine codeAny_mono h₆ fun r s' hr => ?_
      cases r with
      | ok f =>
        first
          | exact wpAny_pure ⟨rfl, hr⟩
          | exact wpAny_bind (wpAny_pure (wpAny_pure ⟨rfl, hr⟩))
      | error e => exact hr.elim
/-- the second clause's -/
theorem loop1 (I : Nat → Shared → Prop) (step : ∀ n s, I n s → wpAny (model prog w) A (pyNext it) (fun r s₁ => match r with
      | none => R (.ok .next) s₁
      | some v => wpAny (model prog w) A (letOwnedTupleGo t1 it v) (fun _ s₂ => wpAny (model prog w) A (assign t1 env v) (fun _ s₃ => wpAny (model prog w) A (tests env ifs1) (fun ok s₄ =>
          if ok = true then wpAny (model prog w) A (eval kx env) (fun kv s₅ => wpAny (model prog w) A (eval vx env) (fun vv s₆ => wpAny (model prog w) A (dictSet D kv vv) (fun _ s₇ => ∃ m, m < n ∧ I m s₇) (notedBy (model prog w) A env fun e s' => R (.error e) s') s₆)
            (notedBy (model prog w) A env fun e s' => R (.error e) s') s₅) (notedBy (model prog w) A env fun e s' => R (.error e) s') s₄
          else ∃ m, m < n ∧ I m s₄) (notedBy (model prog w) A env fun e s' => R (.error e) s') s₃) (notedBy (model prog w) A env fun e s' => R (.error e) s') s₂) (notedBy (model prog w) A env fun e s' => R (.error e) s') s₁) (notedBy (model prog w) A env fun e s' => R (.error e) s') s)
    (n : Nat) (h : I n s) : codeAny (model prog w) A (.compLoop (dx kx vx t0 i0 t1 i1 ifs0 ifs1 scope pos) 1 it (.ref D) env) R s := by
  refine codeAny_loop rfl I (fun n s hI => ?_) n h
  show wpAny _ A ((compTurn (dx kx vx t0 i0 t1 i1 ifs0 ifs1 scope pos) 1 it (.ref D) env).onRaise (fun x => do noteFrame x env; theTreesLotGoes x)) _ _ s
  refine wpAny_noted ?_
  rw [turn1]
  refine wp_turn (wpAny_mono (step n s hI) (fun r s₁ h₁ => ?_) fun _ _ q => q)
  cases r with
  | none => exact h₁
  | some v =>
    refine wpAny_mono h₁ (fun _ s₂ h₂ => wpAny_mono h₂ (fun _ s₃ h₃ => wpAny_mono h₃ (fun ok s₄ h₄ => ?_) fun _ _ q => q) fun _ _ q => q) fun _ _ q => q
    cases ok with
    | false => exact wpAny_pure ⟨rfl, h₄⟩
    | true =>
      exact wpAny_bind (wpAny_bind (wpAny_mono h₄ (fun kv s₅ h₅ => wpAny_bind (wpAny_holding (wpAny_mono h₅ (fun vv s₆ h₆ => wpAny_bind (wpAny_standAt (wpAny_holding (wpAny_mono h₆ (fun _ s₇ h₇ => wpAny_pure ⟨rfl, h₇⟩) fun _ _ q => q)))) fun _ _ q => q))) fun _ _ q => q))
/-- the second clause's start -/
theorem start1 (h0 : codeAny (model prog w) A (.compLoop (dx kx vx t0 i0 t1 i1 ifs0 ifs1 scope pos) 1 it acc env) R s)
    (h : wpAny (model prog w) A (pyIter it) (fun it' s' => codeAny (model prog w) A (.compLoop (dx kx vx t0 i0 t1 i1 ifs0 ifs1 scope pos) 1 it' acc env) R s') (notedBy (model prog w) A env fun x s' => R (.error x) s') s) :
    codeAny (model prog w) A (.compStart (dx kx vx t0 i0 t1 i1 ifs0 ifs1 scope pos) 1 it acc env) R s := by
  refine codeAny_of_tree ?_
  show wpAny _ _ ((compStart (dx kx vx t0 i0 t1 i1 ifs0 ifs1 scope pos) 1 it acc env).onRaise (fun x => do noteFrame x env; standAt theWindowsPlace)) _ _ s
  refine wpAny_notedAt ?_
  unfold compStart
  show wpAny _ _ (ask >>= _) _ _ s
  refine wpAny_bind (wpAny_askSetting (wpAny_ite ?_))
  split
  · first
      | exact wpAny_bind (wpAny_pure (wpAny_pure (And.intro rfl h0)))
      | exact wpAny_pure (And.intro rfl h0)
  · first
      | exact wpAny_bind (wpAny_rule (wpAny_bind (wpAny_standAt (wpAny_bind (wpAny_mono h (fun it' s' h' => wpAny_pure (And.intro rfl h')) fun _ _ x => x)))))
      | (refine wpAny_bind (wpAny_rule ?_); show wpAny _ _ (standAt i1.pos >>= _) _ _ s; exact wpAny_bind (wpAny_standAt (wpAny_bind (wpAny_mono h (fun it' s' h' => wpAny_pure (And.intro rfl h')) fun _ _ x => x))))
end
/-- {k: v for tg in iter if .. for tg1 in iter1 if ..} -/
def tDc2 (wi : TI) (g : TG) (tt : TT) (wi1 : TI) (g1 : TG) (tt1 : TT) (tk tv : TE) (vs vs1 : List Nat) : TE := fun σ H Q => wi σ H fun J H1 => ∀ D, H1 D = none → ∃ W : Nat → Nat → Hp → Prop, (∃ m, W 0 m (upd H1 D (.dK []))) ∧ ∀ i m H, W i m H →
  (J.stop i H ∧ Q (.ref D) H) ∨ (J.go i H ∧ ∃ Nx : Hp → Prop, (∀ H', Nx H' → ∃ m', m' < m ∧ W (i + 1) m' H') ∧ ∀ x H', J.yld i H x H' → g x (wipe σ vs) H' fun σ2 H2 => wipe σ2 vs = wipe σ vs ∧ tt σ2 H2 fun b H3 =>
    if b = true then wi1 σ2 H3 fun J1 H4 => ∃ W1 : Nat → Nat → Hp → Prop, (∃ m, W1 0 m H4) ∧ ∀ j k H, W1 j k H →
      (J1.stop j H ∧ Nx H) ∨ (J1.go j H ∧ ∃ Nx1 : Hp → Prop, (∀ H', Nx1 H' → ∃ k', k' < k ∧ W1 (j + 1) k' H') ∧ ∀ x H', J1.yld j H x H' → g1 x (wipe σ2 vs1) H' fun σ3 H5 => wipe σ3 vs1 = wipe σ2 vs1 ∧ tt1 σ3 H5 fun b H6 =>
        if b = true then tk σ3 H6 fun y H7 => tv σ3 H7 fun z H8 => ∃ kvs k, y = kV k ∧ H8 D = some (.dK kvs) ∧ kvs.length < sizeLine ∧ Nx1 (upd H8 D (.dK (putK kvs k z))) else Nx1 H6)
    else Nx H3)
theorem pe_dc2 {X : Cx} {kx vx tg iter tg1 iter1 : Expr} {ifs ifs1 : List Expr} {scope : Scope} {own : List (Str × Nat)} {vs1 : List Nat} {pos : Pos} {wi wi1 : TI} {g g1 : TG} {tt tt1 : TT} {tk tv : TE} (hc : X.calm = true) (hN : X.N.Nodup) (hi : PI X tg iter wi) (ok : BlkOk X.N X.env.scope scope own) (hv : ∀ i ∈ vs1, i ∈ own.map (·.2))
    (hg : ∀ (s : Shared) (H : Hp) (C : Addr) (cl : List (Str × Addr)) (fp : List Addr), PG (X.blk s H scope (compEnvC scope cl C X.env) fp) tg g) (ht : ∀ (s : Shared) (H : Hp) (C : Addr) (cl : List (Str × Addr)) (fp : List Addr), PTs (X.blk s H scope (compEnvC scope cl C X.env) fp) ifs tt)
    (hi1 : ∀ (s : Shared) (H : Hp) (C : Addr) (cl : List (Str × Addr)) (fp : List Addr), PI (X.blk s H scope (compEnvC scope cl C X.env) fp) tg1 iter1 wi1)
    (hg1 : ∀ (s : Shared) (H : Hp) (C : Addr) (cl : List (Str × Addr)) (fp : List Addr), PG (X.blk s H scope (compEnvC scope cl C X.env) fp) tg1 g1) (ht1 : ∀ (s : Shared) (H : Hp) (C : Addr) (cl : List (Str × Addr)) (fp : List Addr), PTs (X.blk s H scope (compEnvC scope cl C X.env) fp) ifs1 tt1)
    (hk : ∀ (s : Shared) (H : Hp) (C : Addr) (cl : List (Str × Addr)) (fp : List Addr), PE (X.blk s H scope (compEnvC scope cl C X.env) fp) kx tk) (he : ∀ (s : Shared) (H : Hp) (C : Addr) (cl : List (Str × Addr)) (fp : List Addr), PE (X.blk s H scope (compEnvC scope cl C X.env) fp) vx tv)
    (hs : ∀ x, foldedSetIterable iter X.env x = pure x := by intro _; rfl) (hs1 : ∀ env x, foldedSetIterable iter1 env x = pure x := by intro _ _; rfl) :
    PE X (.DictComp kx vx [⟨tg, iter, ifs, 0⟩, ⟨tg1, iter1, ifs1, 0⟩] scope pos) (tDc2 wi g tt wi1 g1 tt1 tk tv (own.map (·.2)) vs1) := by
  refine ⟨fun pins s σ H Q I h => ?_⟩
  rw [arm_eval_DictComp]
  have hfree : ∀ y ∈ scope.names, y.2 = .free → ∃ c, X.env.cells.lookup y.1 = some c := fun y hy e => I.ok.has _ ((ok.free y hy e).elim .inl .inr)
  refine wpAny_comprehension_free (use := none) rfl hs (closure_ok hfree) ok.kind (fun y hy e => by rw [ok.uniq y hy, e]) (thn (hi.run pins s σ H _ I h) fun xv s1 hx => thn hx fun itv s2 h2 => ?_)
  obtain ⟨it, fp, tn, J, H2, e, I2, T, st2, f2, q⟩ := h2
  subst e
  refine wpAny_newObj_type (newEnv_comp ?_)
  generalize hD : s2.heap.objs.size = D
  obtain ⟨W, ⟨m0, w0⟩, step⟩ := q D (I2.hok.fresh (Nat.le_of_eq hD))
  generalize hs3 : ({ s2 with heap := s2.heap.push { cls := .type "dict", data := .dict #[] } } : Shared) = s3
  have h3 : s3.heap = s2.heap.push { cls := .type "dict", data := .dict #[] } := by rw [← hs3]
  have I3 : Inv X pins σ (upd H2 D (.dK [])) s3 := by
    rw [← hs3]
    refine I2.laid (t' := s2.toks) (fun b o e => Heap.get?_push_of_some _ e) (Nat.le_of_eq hD) ?_
    rw [← hD]
    exact dk_empty s2.heap I2.big
  have f3 : ∀ b ∈ fp, FpOk X pins (upd H2 D (.dK [])) b ∧ b < s3.heap.objs.size := fun b hb => by
    obtain ⟨o, e, _⟩ := T.obj _ _ st2 b hb
    have hlt := Heap.lt_size e
    exact ⟨⟨by rw [upd_ne (by rw [← hD]; exact Nat.ne_of_lt hlt)]; exact (f2 b hb).1, (f2 b hb).2⟩, by rw [h3, Heap.size_push]; exact Nat.lt_succ_of_lt hlt⟩
  have I4 := block_start I3 ok hN f3
  generalize hcl : cellsFrom (s3.heap.objs.size + 1) scope.names (cloFrom X.env.cells scope.names []) = cl at I4 ⊢
  generalize hH3 : upd H2 D (.dK []) = H3 at I3 I4 w0 f3
  show codeAny _ _ (.compStart (dx kx vx tg iter tg1 iter1 ifs ifs1 scope pos) 0 (.ref it) (.ref D) (compEnvC scope cl s3.heap.objs.size X.env)) (compPost (model X.prog X.w) X.A X.xe none (EP X pins σ Q) (.ref D) s3.heap.objs.size) _
  have pg := hg s3 H3 s3.heap.objs.size cl fp
  have pt := ht s3 H3 s3.heap.objs.size cl fp
  have pk := hk s3 H3 s3.heap.objs.size cl fp
  have pv := he s3 H3 s3.heap.objs.size cl fp
  have pi1 := hi1 s3 H3 s3.heap.objs.size cl fp
  have pg1 := hg1 s3 H3 s3.heap.objs.size cl fp
  have pt1 := ht1 s3 H3 s3.heap.objs.size cl fp
  generalize hce : compEnvC scope cl s3.heap.objs.size X.env = ce at I4 pg pt pk pv pi1 pg1 pt1 ⊢
  have cL : ce.locals = s3.heap.objs.size := by subst hce; rfl
  generalize hs4 : ({ s3 with heap := pushCells (s3.heap.push { cls := .type "dict", data := .dict #[] }) scope.names } : Shared) = s4 at I4 ⊢
  have st4 : tn 0 s4.heap := T.keep _ _ _ st2 fun b _ o e => by rw [← hs4]; exact pushCells_keeps _ _ _ _ (Heap.get?_push_of_some _ (by rw [h3]; exact Heap.get?_push_of_some _ e))
  have fok : ∀ {σ' : L2.St} {H' : Hp} {s' : Shared}, Inv (X.blk s3 H3 scope ce fp) [] σ' H' s' → (∀ b ∈ fp, H' b = none) → ∀ b ∈ fp, FpOk (X.blk s3 H3 scope ce fp) [] H' b := fun {σ' H' s'} I' hn b hb =>
    ⟨hn b hb, (I'.ok.exf b hb).1, I'.ok.exfs b hb, .inl hb, fun x c e => (I'.ok.exf b hb).2 x c e, fun p hp => absurd (show p ∈ ([] : List (Addr × Obj)) ++ [] from hp) (by simp)⟩
  have loop : codeAny (model X.prog X.w) X.A (.compLoop (dx kx vx tg iter tg1 iter1 ifs ifs1 scope pos) 0 (.ref it) (.ref D) ce) (compPost (model X.prog X.w) X.A X.xe none (EP X pins σ Q) (.ref D) s3.heap.objs.size) s4 := by
    refine loop0 (hs1 ce) (fun n s' => ∃ i H', Inv (X.blk s3 H3 scope ce fp) [] (wipe σ (own.map (·.2))) H' s' ∧ tn i s'.heap ∧ (∀ b ∈ fp, H' b = none) ∧ W i n H') ?_ m0 ⟨0, H3, I4, st4, fun b hb => (f3 b hb).1.1, w0⟩
    rintro n s5 ⟨i, H5, I5, st5, n5, w5⟩
    rcases step i n H5 w5 with ⟨stop, qq⟩ | ⟨go, Nx, hNx, stp⟩
    · refine thnF (T.done (X.blk s3 H3 scope ce fp) rfl rfl rfl hc i [] s5 _ H5 (fun _ _ => False) I5 (fok I5 n5) st5 stop) fun r s6 ⟨hr, I6⟩ => ?_
      subst hr
      have I7 : Inv X pins σ H5 s6 := I3.call' (ch := fp) I6.os I6.base I6.hok I6.bare fun b hb => ⟨(f3 b hb).1.2.2.2.1, (f3 b hb).1.2.1, (f3 b hb).1.2.2.2.2.1, (f3 b hb).1.2.2.2.2.2⟩
      have nC : H5 s3.heap.objs.size = none := by rw [← cL]; exact I6.free
      obtain ⟨m, hn, _⟩ := I6.loc
      have hn : s6.heap.Ns ce.locals m := hn
      rw [cL] at hn
      refine ⟨m, hn, fun h'' sb => ?_⟩
      obtain ⟨f0, f1, f2, f3, f4, f5⟩ := I3.fpOk (H' := H5) (Nat.le_refl _) nC
      exact ⟨.ref D, H5, I7.turned (t' := s6.toks) (fun b o hb e => (sb.2 b hb).trans e) f0 f1 f3 f4 f5, rfl, qq⟩
    · refine one_turn hc T pg pt I5 fok n5 st5 go (K := fun b σ2 H3 => if b = true then _ else Nx H3) (R0 := fun σ2 => wipe σ2 (own.map (·.2)) = wipe σ (own.map (·.2))) stp ?_
      intro b pl σ8 H9 s9 I9 hw8 q9 back
      have hl8 : (wipe σ (own.map (·.2))).length = σ8.length := by rw [← hw8, wipe_length]
      have fin : ∀ {σ9 : L2.St} {s' : Shared} {H' : Hp}, Inv (X.blk s3 H3 scope ce fp) ([] ++ pl) σ9 H' s' → (wipe σ (own.map (·.2))).length = σ9.length → (∀ (j : Nat) v, (wipe σ (own.map (·.2)))[j]? = some (some v) → σ9[j]? = some (some v)) → Nx H' →
          ∃ m, m < n ∧ ∃ i H', Inv (X.blk s3 H3 scope ce fp) [] (wipe σ (own.map (·.2))) H' s' ∧ tn i s'.heap ∧ (∀ b ∈ fp, H' b = none) ∧ W i m H' := fun {σ9 s' H'} I' hl hk nx => by
        obtain ⟨m', hm, w'⟩ := hNx H' nx
        obtain ⟨b1, b2, b3⟩ := back I'
        exact ⟨m', hm, i + 1, H', b1.weak hl hk, b2, b3, w'⟩
      cases b with
      | false =>
        simp only [Bool.false_eq_true, if_false] at q9 ⊢
        exact fin I9 hl8 (fun j v e => by rw [← hw8] at e; exact (wipe_some e).1) q9
      | true =>
        simp only [if_true] at q9 ⊢
        refine thnF (pi1.run _ s9 σ8 H9 _ I9 q9) fun xv s10 hx => thnF hx fun itv s11 h11 => ?_
        obtain ⟨it1, fp1, tn1, J1, H11, e1, I11, T1, st11, f11, W1, ⟨m1, w1⟩, step1⟩ := h11
        subst e1
        have hk9 : ∀ (j : Nat) v, (wipe σ (own.map (·.2)))[j]? = some (some v) → (wipe σ8 vs1)[j]? = some (some v) := fun j v e => by
          rw [← hw8] at e
          obtain ⟨e1, e2⟩ := wipe_some e
          rw [wipe_out fun z => e2 (hv j z)]
          exact e1
        have lp : codeAny (model X.prog X.w) X.A (.compLoop (dx kx vx tg iter tg1 iter1 ifs ifs1 scope pos) 1 (.ref it1) (.ref D) ce) (fun r s' => match r with
              | .ok _ => ∃ m, m < n ∧ ∃ i H', Inv (X.blk s3 H3 scope ce fp) [] (wipe σ (own.map (·.2))) H' s' ∧ tn i s'.heap ∧ (∀ b ∈ fp, H' b = none) ∧ W i m H'
              | .error _ => False) s11 := by
          refine loop1 (fun k s' => ∃ j H', Inv (X.blk s3 H3 scope ce fp) ([] ++ pl) (wipe σ8 vs1) H' s' ∧ tn1 j s'.heap ∧ (∀ b ∈ fp1, H' b = none) ∧ W1 j k H') ?_ m1 ⟨0, H11, I11.weak (wipe_length _ _) (fun j v e => (wipe_some e).1), st11, fun b hb => (f11 b hb).1, w1⟩
          rintro k s12 ⟨j, H12, I12, st12, n12, w12⟩
          have fok1 : ∀ {σ' : L2.St} {H' : Hp} {s' : Shared}, Inv (X.blk s3 H3 scope ce fp) ([] ++ pl) σ' H' s' → (∀ b ∈ fp1, H' b = none) → ∀ b ∈ fp1, FpOk (X.blk s3 H3 scope ce fp) ([] ++ pl) H' b := fun {σ' H' s'} _ hn b hb => ⟨hn b hb, (f11 b hb).2⟩
          rcases step1 j k H12 w12 with ⟨stop1, nx1⟩ | ⟨go1, Nx1, hNx1, stp1⟩
          · refine thnF (T1.done (X.blk s3 H3 scope ce fp) rfl rfl rfl hc j _ s12 (wipe σ8 vs1) H12 (fun _ _ => False) I12 (fok1 I12 n12) st12 stop1) fun r s13 ⟨hr, I13⟩ => ?_
            subst hr
            exact fin I13 (hl8.trans (wipe_length σ8 vs1).symm) hk9 nx1
          · refine one_turn hc T1 pg1 pt1 I12 fok1 n12 st12 go1 (K := fun b σ3 H6 => if b = true then _ else Nx1 H6) (R0 := fun σ3 => wipe σ3 vs1 = wipe σ8 vs1) stp1 ?_
            intro b1 pl1 σ15 H16 s16 I16 hw15 q16 back1
            have fin1 : ∀ {s' : Shared} {H' : Hp}, Inv (X.blk s3 H3 scope ce fp) (([] ++ pl) ++ pl1) σ15 H' s' → Nx1 H' → ∃ m, m < k ∧ ∃ j H', Inv (X.blk s3 H3 scope ce fp) ([] ++ pl) (wipe σ8 vs1) H' s' ∧ tn1 j s'.heap ∧ (∀ b ∈ fp1, H' b = none) ∧ W1 j m H' := fun {s' H'} I' nx => by
              obtain ⟨m', hm, w'⟩ := hNx1 H' nx
              obtain ⟨b1, b2, b3⟩ := back1 I'
              exact ⟨m', hm, j + 1, H', b1.weak (by rw [← hw15, wipe_length]) (fun j v e => by rw [← hw15] at e; exact (wipe_some e).1), b2, b3, w'⟩
            cases b1 with
            | false =>
              simp only [Bool.false_eq_true, if_false] at q16 ⊢
              exact fin1 I16 q16
            | true =>
              simp only [if_true] at q16 ⊢
              refine thnF (pk.run _ s16 σ15 H16 _ I16 q16) fun kv s17 ⟨yk, H17, I17, r17, q17⟩ => ?_
              refine thnF (pv.run _ s17 σ15 H17 _ I17 q17) fun vv s18 ⟨yv, H18, I18, r18, kvs, ky, ek, hD18, hz18, nx⟩ => ?_
              subst ek
              exact d_dictSet (X := X.blk s3 H3 scope ce fp) I18 hD18 hz18 r17 r18 fun s19 I19 => fin1 I19 nx
        exact start1 lp (T1.self X.A 0 _ _ _ st11 lp)
  exact codeAny_compStart_dict loop (T.self X.A 0 _ _ _ st4 loop)
end DC2
/-! two clauses of a dict comprehension, read -/
namespace PF
open PySem PySem.Spec PyProof.Rows L2
section
variable {g : G} {W : Wx} {tk tv : TE} {fk fv : FE} {tc tc1 : TT} {fc fc1 : FT} {tg tg1 : TG} {fg fg1 : FG} {wi wi1 : TI} {fi fi1 : FI} {vs vs1 : List Nat}
open Classical in
noncomputable def dc2N (fg : FG) (fc : FT) (fi1 : FI) (fg1 : FG) (fc1 : FT) (fk fv : FE) (s : Src) (n : Nat) (env : En) (vs1 : List Nat) : List D → Hs → R Unit
  | [], h => if s.good h then .ok () h else .no
  | d :: r, h => if s.good h then (fg d env h).bnd fun e h1 => (fc e h1).bnd fun b h2 => if b = true then (fi1 e h2).bnd fun s1 h3 => (dcN fg1 fc1 fk fv s1 n (wipeE e vs1) s1.items h3).bnd fun _ h4 => dc2N fg fc fi1 fg1 fc1 fk fv s n env vs1 r h4
      else dc2N fg fc fi1 fg1 fc1 fk fv s n env vs1 r h2
    else .no
noncomputable def fDc2 (fi : FI) (fg : FG) (fc : FT) (fi1 : FI) (fg1 : FG) (fc1 : FT) (fk fv : FE) (vs vs1 : List Nat) : FE := fun env h => (fi env h).bnd fun s h1 => (dc2N fg fc fi1 fg1 fc1 fk fv s h1.length (wipeE env vs) vs1 s.items (h1 ++ [.dct []])).bnd fun _ h2 => .ok (.ref h1.length) h2
theorem dc_inner (hg : SimG g W tg1 fg1) (ho : OnlyG tg1 vs1) (hc : SimT g W tc1 fc1) (hk : SimE g W tk fk) (he : SimE g W tv fv) {H0 : Hp} {sp ι5 : List Addr} {h5 : Hs} {H5 : Hp} {n : Nat} {Dl : Addr} {J1 : It} {s1 : Src} {e : En} {σ : L2.St} {Nx : Hp → Prop} {Post : Unit → Hs → List Addr → Hp → Prop}
    (R5 : Rel g.K H0 sp ι5 h5 H5) (n1 : ι5[n]? = some Dl) (hJ : Wk g.K H0 sp J1 s1 ι5 H5) (E5 : EnvR g.K ι5 H5 e σ) (fin : ∀ ι h H, Rel g.K H0 sp ι h H → Stp ι5 H5 ι H → WP g H0 sp W ι H (PF.R.ok () h) Post → Nx H)
    (w : WP g H0 sp W ι5 H5 (dcN fg1 fc1 fk fv s1 n (wipeE e vs1) s1.items h5) Post) : ∃ W1 : Nat → Nat → Hp → Prop, (∃ m, W1 0 m H5) ∧ ∀ j k H, W1 j k H →
      (J1.stop j H ∧ Nx H) ∨ (J1.go j H ∧ ∃ Nx1 : Hp → Prop, (∀ H', Nx1 H' → ∃ k', k' < k ∧ W1 (j + 1) k' H') ∧ ∀ x H', J1.yld j H x H' → tg1 x (wipe σ vs1) H' fun σ3 H5 => wipe σ3 vs1 = wipe σ vs1 ∧ tc1 σ3 H5 fun b H6 =>
        if b = true then tk σ3 H6 fun y H7 => tv σ3 H7 fun z H8 => ∃ kvs k, y = kV k ∧ H8 Dl = some (.dK kvs) ∧ kvs.length < sizeLine ∧ Nx1 (upd H8 Dl (.dK (putK kvs k z))) else Nx1 H6) := by
  have E1 := E5.wiped' vs1
  refine ⟨fun i m H => m = s1.items.length - i ∧ i ≤ s1.items.length ∧ ∃ (ι : List Addr) (h : Hs), Rel g.K H0 sp ι h H ∧ Stp ι5 H5 ι H ∧ WP g H0 sp W ι H (dcN fg1 fc1 fk fv s1 n (wipeE e vs1) (s1.items.drop i) h) Post, ⟨_, rfl, Nat.zero_le _, ι5, _, R5, Stp.refl _ _, w⟩, ?_⟩
  rintro i m H ⟨rfl, hle, ι, h, R, S, w⟩
  by_cases hlt : i < s1.items.length
  · rw [List.drop_eq_getElem_cons hlt] at w
    unfold dcN at w
    obtain ⟨hgood, w⟩ := ifC w
    obtain ⟨hgo, hy⟩ := (hJ ι h H R S hgood).1 i hlt
    refine .inr ⟨hgo, fun H' => ∃ (ι : List Addr) (h : Hs), Rel g.K H0 sp ι h H' ∧ Stp ι5 H5 ι H' ∧ WP g H0 sp W ι H' (dcN fg1 fc1 fk fv s1 n (wipeE e vs1) (s1.items.drop (i + 1)) h) Post, fun H' x => ⟨s1.items.length - (i + 1), by omega, rfl, hlt, x⟩, fun x H' yl => ?_⟩
    obtain ⟨d, hd, ⟨R', S'⟩, q⟩ := hy x H' yl
    have hd' : s1.items[i] = d := (List.getElem?_eq_some_iff.mp hd).2
    rw [hd'] at w
    have E' := E1.mono (S.trans S')
    have key := hg H0 sp ι h H' (wipeE e vs1) (wipe σ vs1) d x (fun σ2 H2' => tc1 σ2 H2' fun b H3 => if b = true then tk σ2 H3 fun y H4 => tv σ2 H4 fun z H5' => ∃ kvs k, y = kV k ∧ H5' Dl = some (.dK kvs) ∧ kvs.length < sizeLine ∧ (∃ (ι : List Addr) (h : Hs), Rel g.K H0 sp ι h (upd H5' Dl (.dK (putK kvs k z))) ∧ Stp ι5 H5 ι (upd H5' Dl (.dK (putK kvs k z))) ∧ WP g H0 sp W ι (upd H5' Dl (.dK (putK kvs k z))) (dcN fg1 fc1 fk fv s1 n (wipeE e vs1) (s1.items.drop (i + 1)) h) Post)
      else (∃ (ι : List Addr) (h : Hs), Rel g.K H0 sp ι h H3 ∧ Stp ι5 H5 ι H3 ∧ WP g H0 sp W ι H3 (dcN fg1 fc1 fk fv s1 n (wipeE e vs1) (s1.items.drop (i + 1)) h) Post)) R' E' q (WP.bnd (w.step S') fun e2 h2 ι3 H3 R3 S3 w3 σ2 Eσ => ?_)
    · have := ho x (wipe σ vs1) H' _ key
      rw [wipe_wipe] at this
      exact this
    · refine hc H0 sp ι3 h2 H3 e2 σ2 _ R3 Eσ (WP.bnd w3 fun b h3 ι4 H4 R4 S4 w4 => ?_)
      have SS4 : Stp ι5 H5 ι4 H4 := ((S.trans S').trans S3).trans S4
      cases b with
      | false =>
        rw [if_neg Bool.false_ne_true] at w4 ⊢
        exact ⟨ι4, h3, R4, SS4, w4⟩
      | true =>
        rw [if_pos rfl] at w4 ⊢
        refine hk H0 sp ι4 h3 H4 e2 σ2 _ R4 (Eσ.mono S4) (WP.bnd w4 fun y h4 ι6 H6 R6 S6 w6 vy qy => ?_)
        refine he H0 sp ι6 h4 H6 e2 σ2 _ R6 ((Eσ.mono S4).mono S6) (WP.bnd w6 fun z h7 ι7 H7 R7 S7 w7 vz qz => ?_)
        have SS7 := (SS4.trans S6).trans S7
        split at w7
        · rename_i k kvs ek hh
          obtain ⟨hl, w7⟩ := ifN w7
          obtain ⟨a, e1, us, e3, r⟩ := R7.ob _ _ hh
          have ea := SS7.pre _ _ n1
          rw [e1] at ea; cases ea
          have hkv := keyV qy ek
          subst hkv
          have T := R7.put (ho := .dK (putK us k vz)) (o := .dct (putD kvs y z)) e1 fun s => ⟨_, upd_same, (r.mono s).put ek (VR.mono s _ _ (VR.mono S7 _ _ qy)) (VR.mono s _ _ qz)⟩
          exact ⟨us, k, rfl, e3, by rw [← r.length, sizeLine_eq]; exact hl, ι7, _, T.1, SS7.trans T.2, w7.step T.2⟩
        · exact w7.elim
  · have e : i = s1.items.length := by omega
    subst e
    rw [List.drop_length] at w
    unfold dcN at w
    obtain ⟨hgood, w⟩ := ifC w
    exact .inl ⟨(hJ ι h H R S hgood).2, fin ι h H R S w⟩
theorem sim_dc2 (hi : SimI g W wi fi) (hg : SimG g W tg fg) (ho : OnlyG tg vs) (hc : SimT g W tc fc) (hi1 : SimI g W wi1 fi1) (hg1 : SimG g W tg1 fg1) (ho1 : OnlyG tg1 vs1) (hc1 : SimT g W tc1 fc1) (hk : SimE g W tk fk) (he : SimE g W tv fv) :
    SimE g W (DC2.tDc2 wi tg tc wi1 tg1 tc1 tk tv vs vs1) (fDc2 fi fg fc fi1 fg1 fc1 fk fv vs vs1) := by
  intro H0 sp ι h H env σ Q R E w
  refine hi H0 sp ι h H env σ _ R E (WP.bnd w fun s h1 ι1 H1 R1 S1 w1 J hJ Dl hD => ?_)
  have E1 := (E.mono S1).wiped' vs
  obtain ⟨R2, S2⟩ := R1.add (ho := .dK []) (o := .dct []) hD fun _ => ⟨[], upd_same, .nil⟩
  have n1 : (ι1 ++ [Dl])[h1.length]? = some Dl := by rw [← R1.len]; simp
  generalize hι2 : ι1 ++ [Dl] = ι2 at *
  generalize hH2 : upd H1 Dl (.dK []) = H2 at *
  generalize hP : (fun (_ : Unit) (h' : Hs) (ι' : List Addr) (H' : Hp) => WP g H0 sp W ι' H' (PF.R.ok (D.ref h1.length) h') fun d _ ι' H' => ∀ v, VR g.K ι' H' d v → Q v H') = Pp
  have fin : ∀ (ι : List Addr) (h : Hs) (H : Hp), Rel g.K H0 sp ι h H → Stp ι2 H2 ι H → WP g H0 sp W ι H (PF.R.ok () h) Pp → Q (.ref Dl) H := by
    intro ι h H R S w
    rw [← hP] at w
    refine (w.here R).here R (.ref Dl) ?_
    unfold VR
    exact ⟨Dl, rfl, S.pre _ _ n1⟩
  have w2 : WP g H0 sp W ι2 H2 (dc2N fg fc fi1 fg1 fc1 fk fv s h1.length (wipeE env vs) vs1 s.items (h1 ++ [.dct []])) Pp := by
    rw [← hP]
    exact WP.bnd (w1.step S2) fun _ h' ι' H' _ _ w => w
  refine ⟨fun i m H => m = s.items.length - i ∧ i ≤ s.items.length ∧ ∃ (ι : List Addr) (h : Hs), Rel g.K H0 sp ι h H ∧ Stp ι2 H2 ι H ∧ WP g H0 sp W ι H (dc2N fg fc fi1 fg1 fc1 fk fv s h1.length (wipeE env vs) vs1 (s.items.drop i) h) Pp, ⟨_, rfl, Nat.zero_le _, ι2, _, R2, Stp.refl _ _, w2⟩, ?_⟩
  rintro i m H ⟨rfl, hle, ι, h, R, S, w⟩
  by_cases hlt : i < s.items.length
  · rw [List.drop_eq_getElem_cons hlt] at w
    unfold dc2N at w
    obtain ⟨hgood, w⟩ := ifC w
    obtain ⟨hgo, hy⟩ := (hJ ι h H R (S2.trans S) hgood).1 i hlt
    generalize hNx : (fun H' : Hp => ∃ (ι : List Addr) (h : Hs), Rel g.K H0 sp ι h H' ∧ Stp ι2 H2 ι H' ∧ WP g H0 sp W ι H' (dc2N fg fc fi1 fg1 fc1 fk fv s h1.length (wipeE env vs) vs1 (s.items.drop (i + 1)) h) Pp) = Nx
    refine .inr ⟨hgo, Nx, fun H' x => ⟨s.items.length - (i + 1), by omega, rfl, hlt, by rw [← hNx] at x; exact x⟩, fun x H' yl => ?_⟩
    obtain ⟨d, hd, ⟨R', S'⟩, q⟩ := hy x H' yl
    have hd' : s.items[i] = d := (List.getElem?_eq_some_iff.mp hd).2
    rw [hd'] at w
    have E' := (E1.mono ((S2.trans S).trans S'))
    have key := hg H0 sp ι h H' (wipeE env vs) (wipe σ vs) d x (fun σ2 H2' => tc σ2 H2' fun b H3 => if b = true then wi1 σ2 H3 fun J1 H4 => ∃ W1 : Nat → Nat → Hp → Prop, (∃ m, W1 0 m H4) ∧ ∀ j k H, W1 j k H →
      (J1.stop j H ∧ Nx H) ∨ (J1.go j H ∧ ∃ Nx1 : Hp → Prop, (∀ H', Nx1 H' → ∃ k', k' < k ∧ W1 (j + 1) k' H') ∧ ∀ x H', J1.yld j H x H' → tg1 x (wipe σ2 vs1) H' fun σ3 H5 => wipe σ3 vs1 = wipe σ2 vs1 ∧ tc1 σ3 H5 fun b H6 =>
        if b = true then tk σ3 H6 fun y H7 => tv σ3 H7 fun z H8 => ∃ kvs k, y = kV k ∧ H8 Dl = some (.dK kvs) ∧ kvs.length < sizeLine ∧ Nx1 (upd H8 Dl (.dK (putK kvs k z))) else Nx1 H6)
      else Nx H3) R' E' q (WP.bnd (w.step S') fun e h2 ι3 H3 R3 S3 w3 σ2 Eσ => ?_)
    · have := ho x (wipe σ vs) H' _ key
      rw [wipe_wipe] at this
      exact this
    · refine hc H0 sp ι3 h2 H3 e σ2 _ R3 Eσ (WP.bnd w3 fun b h3 ι4 H4 R4 S4 w4 => ?_)
      have SS4 : Stp ι2 H2 ι4 H4 := ((S.trans S').trans S3).trans S4
      cases b with
      | false =>
        rw [if_neg Bool.false_ne_true] at w4 ⊢
        rw [← hNx]
        exact ⟨ι4, h3, R4, SS4, w4⟩
      | true =>
        rw [if_pos rfl] at w4 ⊢
        refine hi1 H0 sp ι4 h3 H4 e σ2 _ R4 (Eσ.mono S4) (WP.bnd w4 fun s1 h4 ι5 H5 R5 S5 w5 J1 hJ1 => ?_)
        have SS5 := SS4.trans S5
        refine dc_inner hg1 ho1 hc1 hk he R5 (SS5.pre _ _ n1) hJ1 ((Eσ.mono S4).mono S5) (Post := fun _ h' ι' H' => WP g H0 sp W ι' H' (dc2N fg fc fi1 fg1 fc1 fk fv s h1.length (wipeE env vs) vs1 (s.items.drop (i + 1)) h') Pp) (fun ι h H R S w => ?_) (WP.bnd w5 fun _ h' ι' H' _ _ w => w)
        rw [← hNx]
        exact ⟨ι, h, R, SS5.trans S, w.here R⟩
  · have e : i = s.items.length := by omega
    subst e
    rw [List.drop_length] at w
    unfold dc2N at w
    obtain ⟨hgood, w⟩ := ifC w
    exact .inl ⟨(hJ ι h H R (S2.trans S) hgood).2, fin ι h H R S w⟩
end
end PF
/-! two clauses of a dict comprehension, in the calculus -/
namespace PF
open PySem PySem.Spec PyProof.Rows L2 XS
structure Dc2W {α β : Type} (m : Nat) (fr : Bn → Hs → Hs) (fg : FG) (fc : FT) (fi1 : FI) (fg1 : FG) (fc1 : FT) (fk fv : FE) (s : Src) (emb : α → D) (l : List α) (emb1 : β → D) (sub : α → List β) (env : En) (vs1 : List Nat) (r : Hs) (Q : D → Hs → Prop) (J : List α → List β → List (D × D) → Prop) : Prop where
  it : s.items = l.map emb
  gd : ∀ b kvs, s.good (fr b (r ++ [.dct kvs]))
  j0 : J [] [] []
  st : ∀ done x rest kvs b1, l = done ++ x :: rest → J done [] kvs → wp (fg (emb x) env (fr b1 (r ++ [.dct kvs]))) fun e h1 => wp (fc e h1) fun t h2 => cnd t
    (wp (fi1 e h2) fun s1 h3 => (∃ b3, h3 = fr b3 (r ++ [.dct kvs])) ∧ s1.items = (sub x).map emb1 ∧ (∀ b kvs, s1.good (fr b (r ++ [.dct kvs]))) ∧
      (∀ inn y rest1 kvs b1, sub x = inn ++ y :: rest1 → J done inn kvs → wp (fg1 (emb1 y) (wipeE e vs1) (fr b1 (r ++ [.dct kvs]))) fun e1 h1 => wp (fc1 e1 h1) fun t h2 => cnd t
        (wp (fk e1 h2) fun k h3 => wp (fv e1 h3) fun z h4 => ∃ b3, h4 = fr b3 (r ++ [.dct kvs]) ∧ (keyOf k).isSome = true ∧ kvs.length < 16777216 ∧ J done (inn ++ [y]) (putD kvs k z)) (∃ b3, h2 = fr b3 (r ++ [.dct kvs]) ∧ J done (inn ++ [y]) kvs)) ∧
      (∀ kvs, J done (sub x) kvs → J (done ++ [x]) [] kvs))
    (∃ b3, h2 = fr b3 (r ++ [.dct kvs]) ∧ J (done ++ [x]) [] kvs)
  en : ∀ kvs b', J l [] kvs → Q (.ref (r.length + m)) (fr b' (r ++ [.dct kvs]))
theorem dc2_w {m : Nat} {fr : Bn → Hs → Hs} (F : Frm m fr) {α β : Type} {fg : FG} {fc : FT} {fi1 : FI} {fg1 : FG} {fc1 : FT} {fk fv : FE} {s : Src} {emb : α → D} {l : List α} {emb1 : β → D} {sub : α → List β} {env : En} {vs1 : List Nat} {r : Hs} {Q : D → Hs → Prop} {J : List α → List β → List (D × D) → Prop}
    (f : Dc2W m fr fg fc fi1 fg1 fc1 fk fv s emb l emb1 sub env vs1 r Q J) :
    ∀ (rest done : List α) (kvs : List (D × D)) (b : Bn), l = done ++ rest → J done [] kvs → ∃ kvs' b', dc2N fg fc fi1 fg1 fc1 fk fv s (r.length + m) env vs1 (rest.map emb) (fr b (r ++ [.dct kvs])) = .ok () (fr b' (r ++ [.dct kvs'])) ∧ J l [] kvs'
  | [], done, kvs, b, p, j => by
    rw [List.append_nil] at p
    subst p
    refine ⟨kvs, b, ?_, j⟩
    rw [List.map_nil]
    unfold dc2N
    rw [if_pos (f.gd _ _)]
  | x :: rest, done, kvs, b, p, j => by
    obtain ⟨e, h1, q1, t, h2, q2, w⟩ := f.st done x rest kvs b p j
    rw [List.map_cons]
    unfold dc2N
    rw [if_pos (f.gd _ _), q1]
    simp only [bnd_ok]
    rw [q2]
    simp only [bnd_ok]
    cases t with
    | false =>
      obtain ⟨b3, rfl, j'⟩ := w.2 rfl
      simp only [Bool.false_eq_true, if_false]
      exact dc2_w F f rest (done ++ [x]) kvs b3 (by simp [p]) j'
    | true =>
      obtain ⟨s1, h3, q3, ⟨b3, rfl⟩, i1, g1, st1, nx⟩ := w.1 rfl
      simp only [if_true]
      rw [q3]
      simp only [bnd_ok]
      obtain ⟨kvs', b', q4, j'⟩ := dcN_w F (env := wipeE e vs1) (J := fun inn kvs => J done inn kvs) g1 st1 (sub x) [] kvs b3 rfl j
      rw [i1, q4]
      simp only [bnd_ok]
      exact dc2_w F f rest (done ++ [x]) kvs' b' (by simp [p]) (nx kvs' j')
theorem w_dc2 {m : Nat} {fr : Bn → Hs → Hs} (F : Frm m fr) {fi : FI} {fg : FG} {fc : FT} {fi1 : FI} {fg1 : FG} {fc1 : FT} {fk fv : FE} {vs vs1 : List Nat} {env : En} {r : Hs} {b : Bn} {Q : D → Hs → Prop}
    (w : wp (fi env (fr b r)) fun s h1 => ∃ b1, h1 = fr b1 r ∧ ∃ (α β : Type) (emb : α → D) (l : List α) (emb1 : β → D) (sub : α → List β) (J : List α → List β → List (D × D) → Prop), Dc2W m fr fg fc fi1 fg1 fc1 fk fv s emb l emb1 sub (wipeE env vs) vs1 r Q J) : wp (fDc2 fi fg fc fi1 fg1 fc1 fk fv vs vs1 env (fr b r)) Q := by
  obtain ⟨s, h1, e, b1, rfl, α, β, emb, l, emb1, sub, J, f⟩ := w
  obtain ⟨kvs', b', q1, q2⟩ := dc2_w F f l [] [] b1 rfl f.j0
  refine wp_eq (a := .ref (r.length + m)) (h := fr b' (r ++ [.dct kvs'])) ?_ (f.en kvs' b' q2)
  unfold fDc2
  rw [e]
  simp only [bnd_ok]
  rw [F.len, ← F.app, f.it, q1]
  rfl
end PF
/-! a list comprehension over the keys of a dict that stands alone -/
namespace PF
open PySem PySem.Spec PyProof.Rows L2
theorem VR.flat_any {K : PySem.W.Frag} {ι ι' : List Addr} {H H' : Hp} {d : D} {v : V} (f : d.flat = true) (q : VR K ι H d v) : VR K ι' H' d v := by
  cases d with
  | non => exact q
  | bl b => exact q
  | int i => exact q
  | str s => exact q
  | _ => cases f
theorem keyOf_flat {d : D} (h : (keyOf d).isSome = true) : d.flat = true := by
  cases d <;> first | rfl | (simp [keyOf] at h)
section
variable {K : PySem.W.Frag} {ι ι' : List Addr} {H H' : Hp} (ht : ∀ a vs, H a = some (.tup vs) → H' a = some (.tup vs)) (hl : ∀ a vs, H a = some (.lst vs) → a ∉ ι → H' a = some (.lst vs) ∧ a ∉ ι')
include ht hl
mutual
theorem VR.norN : ∀ (d : D) (v : V), d.nor = true → VR K ι H d v → VR K ι' H' d v
  | .non, _, _, h => h
  | .bl _, _, _, h => h
  | .int _, _, _, h => h
  | .str _, _, _, h => h
  | .tup ds, v, n, h => by
    rw [nor_tup] at n
    unfold VR at h ⊢
    obtain ⟨a, vs, e, q, r⟩ := h
    exact ⟨a, vs, e, ht _ _ q, VRs.norN ds vs n r⟩
  | .lst ds, v, n, h => by
    rw [nor_lst] at n
    unfold VR at h ⊢
    obtain ⟨a, vs, e, q, m, r⟩ := h
    obtain ⟨q', m'⟩ := hl _ _ q m
    exact ⟨a, vs, e, q', m', VRs.norN ds vs n r⟩
  | .ref _, _, n, _ => by simp [D.nor] at n
  | .scr _, _, n, _ => by simp [D.nor] at n
  | .dct _ _, _, n, _ => by simp [D.nor] at n
theorem VRs.norN : ∀ (ds : List D) (vs : List V), nors ds = true → VRs K ι H ds vs → VRs K ι' H' ds vs
  | [], _, _, h => h
  | d :: ds, vs, n, h => by
    rw [nors_cons, Bool.and_eq_true] at n
    unfold VRs at h ⊢
    obtain ⟨v, r, e, q, q'⟩ := h
    exact ⟨v, r, e, VR.norN d v n.1 q, VRs.norN ds r n.2 q'⟩
end
end
open Classical in
noncomputable def fLcK (i : Nat) (fg : FG) (fc : FT) (fe : FE) (vs : List Nat) : FE := fun env h => match env[i]?, h with
  | some (some (.ref 0)), [.dct kvs] => if (kvs.all fun p => (keyOf p.1).isSome) = true then match fLc (fun _ h => .ok ⟨kvs.map Prod.fst, []⟩ h) fg fc fe vs (env.map fun _ => none) [] with
      | .ok (.ref 0) [.lst acc] => if nors acc = true then .ok (.ref 1) [.dct kvs, .lst acc] else .no
      | _ => .no
    else .no
  | _, _ => .no
section
variable {g : G} {W : Wx} {te : TE} {fe : FE} {tc : TT} {fc : FT} {tg : TG} {fg : FG} {vs : List Nat} {i : Nat}
theorem sim_lcK (hg : SimG g W tg fg) (ho : OnlyG tg vs) (hc : SimT g W tc fc) (he : SimE g W te fe) : SimE g W (tLockE (tLc (iKeys (tVar i)) tg tc te vs)) (fLcK i fg fc fe vs) := by
  intro H0 sp ι h H env σ Q R E w
  unfold fLcK at w
  split at w
  · rename_i kvs e
    obtain ⟨hk, w⟩ := ifC w
    obtain ⟨d, i1, us, hd, kr⟩ := R.ob 0 _ rfl
    have hι : ι = [d] := by
      have := R.len
      cases ι with
      | nil => cases i1
      | cons x r =>
        cases r with
        | nil => cases i1; rfl
        | cons y r => simp at this
    subst hι
    obtain ⟨v, hσ, hv⟩ := E.2 i _ e
    have hv : v = .ref d := by
      unfold VR at hv
      obtain ⟨a, e1, e2⟩ := hv
      cases e2
      exact e1
    subst hv
    refine ⟨d, .dK us, hd, trivial, fun od => ?_⟩
    generalize hH1 : upd H d (.frz od (.dK us)) = H1
    have hz : H1 d = some (.frz od (.dK us)) := by rw [← hH1]; exact upd_same
    have old : ∀ a, a ≠ d → H1 a = H a := fun a ne => by rw [← hH1, upd_ne ne]
    have hkl : kvs.length = us.length := by
      have := congrArg List.length kr.1
      simpa using this
    split at w
    · rename_i acc hm
      obtain ⟨hn, w⟩ := ifC w
      have R1 : Rel g.K H1 [] [] [] H1 := ⟨rfl, List.nodup_nil, fun n o z => by simp at z, fun a o z _ => z, fun a z => by simp at z, fun a z => by simp at z⟩
      have E1 : EnvR g.K [] H1 (env.map fun _ => none) σ := ⟨by simp [E.1], fun j x q => by
        rw [List.getElem?_map] at q
        cases ej : env[j]? with
        | none => rw [ej] at q; cases q
        | some o => rw [ej] at q; cases q⟩
      have hi : SimI g W (fun (_ : L2.St) (H : Hp) (R : It → Hp → Prop) => H d = some (.frz od (.dK us)) → R (Itk d od us) H) (fun _ h => .ok ⟨kvs.map Prod.fst, []⟩ h) := by
        intro H0' sp' ι' h' H' env' σ' Q' R' E' w' hz'
        refine w' ι' H' R' (Stp.refl _ _) (Itk d od us) ?_
        intro ι2 h2 H2 R2 S2 _
        have hz2 : H2 d = some (.frz od (.dK us)) := S2.tup _ _ hz' trivial
        refine ⟨fun j hj => ⟨⟨hz2, by simpa [hkl] using hj⟩, fun x H3 y => ?_⟩, ⟨hz2, by simp [hkl]⟩⟩
        obtain ⟨rfl, k, v, hkv, rfl⟩ := y
        have hj' : j < kvs.length := by simpa using hj
        have e1 : (us.map fun p => kV p.1)[j]? = some (kV k) := by rw [List.getElem?_map, hkv]; rfl
        have e2 : (kvs.map Prod.fst)[j]? = some kvs[j].1 := by rw [List.getElem?_map, List.getElem?_eq_getElem hj']; rfl
        have q := VRs.at_ kr.2.1 e1 e2
        have fl := keyOf_flat (List.all_eq_true.mp hk kvs[j] (List.getElem_mem _))
        exact ⟨_, e2, ⟨R2, Stp.refl _ _⟩, q.flat_any fl⟩
      have key := sim_lc (te := te) hi hg ho hc he H1 [] [] [] H1 (env.map fun _ => none) σ (fun v H' => H' d = some (.frz od (.dK us)) ∧ Q v (upd H' d (.dK us))) R1 E1 (by
        rw [hm]
        intro ι' H' R' S' v qv
        obtain ⟨Dl, j1, xs, hDl, ra⟩ := R'.ob 0 _ rfl
        have hz' : H' d = some (.frz od (.dK us)) := S'.tup _ _ hz trivial
        have ne : Dl ≠ d := fun z => by rw [z, hz'] at hDl; cases hDl
        have hι' : ι' = [Dl] := by
          have := R'.len
          cases ι' with
          | nil => cases j1
          | cons x r =>
            cases r with
            | nil => cases j1; rfl
            | cons y r => simp at this
        subst hι'
        have hv : v = .ref Dl := by
          unfold VR at qv
          obtain ⟨a, e1, e2⟩ := qv
          cases e2
          exact e1
        subst hv
        refine ⟨hz', ?_⟩
        have nDl : H1 Dl = none := by
          rcases R'.new Dl (by simp) with z | z
          · exact z
          · cases z
        have nDl0 : H Dl = none := by rw [← old Dl ne]; exact nDl
        have up : ∀ a o, H a = some o → a ≠ d → (upd H' d (.dK us)) a = some o ∧ a ≠ Dl := fun a o e na => by
          have e1 : H1 a = some o := by rw [old a na]; exact e
          obtain ⟨e2, n2⟩ := S'.keep a o e1 (by simp)
          exact ⟨by rw [upd_ne na]; exact e2, fun z => n2 (by rw [z]; simp)⟩
        have S2 : Stp [d] H [d, Dl] (upd H' d (.dK us)) := by
          refine ⟨fun n a q => ?_, fun a o e na => ?_, fun a o e ti => ?_⟩
          · cases n with
            | zero => exact q
            | succ n => simp at q
          · have na : a ≠ d := fun z => na (by rw [z]; simp)
            obtain ⟨u1, u2⟩ := up a o e na
            exact ⟨u1, by simp [na, u2]⟩
          · have na : a ≠ d := fun z => by rw [z, hd] at e; cases e; exact ti
            exact (up a o e na).1
        have R2 : Rel g.K H0 sp [d, Dl] [.dct kvs, .lst acc] (upd H' d (.dK us)) := by
          refine ⟨rfl, by simp [Ne.symm ne], fun n o q => ?_, fun a o e na => ?_, fun a m => ?_, fun a m => ?_⟩
          · match n, q with
            | 0, q =>
              cases q
              exact ⟨d, rfl, us, upd_same, kr.mono S2⟩
            | 1, q =>
              cases q
              refine ⟨Dl, rfl, xs, by rw [upd_ne ne]; exact hDl, VRs.norN (ι := [Dl]) (H := H') (fun a vs q => ?_) (fun a vs q m => ?_) acc xs hn ra⟩
              · rw [upd_ne (fun z => by rw [z, hz'] at q; cases q)]; exact q
              · have na : a ≠ d := fun z => by rw [z, hz'] at q; cases q
                exact ⟨by rw [upd_ne na]; exact q, by simp at m; simp [na, m]⟩
            | n + 2, q => simp at q
          · have na1 : a ≠ d := fun z => na (by rw [z]; simp)
            exact (up a o (R.base a o e (by simpa using na1)) na1).1
          · rcases List.mem_cons.mp m with z | z
            · exact z ▸ R.new d (by simp)
            · have z : a = Dl := by simpa using z
              subst z
              refine .inl ?_
              cases e0 : H0 a with
              | none => rfl
              | some o =>
                have := R.base a o e0 (by simpa using ne)
                rw [nDl0] at this
                cases this
          · have := R.spin a m
            simp at this
            simp [this]
        refine w [d, Dl] _ R2 S2 (.ref Dl) ?_
        unfold VR
        exact ⟨Dl, rfl, rfl⟩)
      exact ⟨.ref d, hσ, d, od, rfl, .inl ⟨us, hz, key hz⟩⟩
    · exact w.elim
  · exact w.elim
end
end PF
/-! a dict comprehension that is given a name -/
namespace DC2
open PySem PySem.Spec PyProof.Rows L2
theorem dc2_core {X : Cx} {kx vx tg iter tg1 iter1 : Expr} {ifs ifs1 : List Expr} {scope : Scope} {own : List (Str × Nat)} {vs1 : List Nat} {pos : Pos} {wi wi1 : TI} {g g1 : TG} {tt tt1 : TT} {tk tv : TE} {pins : List (Addr × Obj)} {s : Shared} {σ : L2.St} {H : Hp} {Q : VK} {use : Option (Value → Sem Unit)} {Qf : Value → Shared → Prop} {pos' : Pos} (hc : X.calm = true) (hN : X.N.Nodup) (hi : PI X tg iter wi) (ok : BlkOk X.N X.env.scope scope own) (hv : ∀ i ∈ vs1, i ∈ own.map (·.2))
    (hg : ∀ (s : Shared) (H : Hp) (C : Addr) (cl : List (Str × Addr)) (fp : List Addr), PG (X.blk s H scope (compEnvC scope cl C X.env) fp) tg g) (ht : ∀ (s : Shared) (H : Hp) (C : Addr) (cl : List (Str × Addr)) (fp : List Addr), PTs (X.blk s H scope (compEnvC scope cl C X.env) fp) ifs tt)
    (hi1 : ∀ (s : Shared) (H : Hp) (C : Addr) (cl : List (Str × Addr)) (fp : List Addr), PI (X.blk s H scope (compEnvC scope cl C X.env) fp) tg1 iter1 wi1)
    (hg1 : ∀ (s : Shared) (H : Hp) (C : Addr) (cl : List (Str × Addr)) (fp : List Addr), PG (X.blk s H scope (compEnvC scope cl C X.env) fp) tg1 g1) (ht1 : ∀ (s : Shared) (H : Hp) (C : Addr) (cl : List (Str × Addr)) (fp : List Addr), PTs (X.blk s H scope (compEnvC scope cl C X.env) fp) ifs1 tt1)
    (hk : ∀ (s : Shared) (H : Hp) (C : Addr) (cl : List (Str × Addr)) (fp : List Addr), PE (X.blk s H scope (compEnvC scope cl C X.env) fp) kx tk) (he : ∀ (s : Shared) (H : Hp) (C : Addr) (cl : List (Str × Addr)) (fp : List Addr), PE (X.blk s H scope (compEnvC scope cl C X.env) fp) vx tv)
    (hs : ∀ x, foldedSetIterable iter X.env x = pure x) (hs1 : ∀ env x, foldedSetIterable iter1 env x = pure x)
    (I : Inv X pins σ H s) (h : tDc2 wi g tt wi1 g1 tt1 tk tv (own.map (·.2)) vs1 σ H Q)
    (hRR : ∀ D C s' m H', Inv X pins σ H' s' → Q (.ref D) H' → s'.heap.Ns C m → FpOk X pins H' C → compPost (model X.prog X.w) X.A X.xe use Qf (.ref D) C (.ok .next) s') :
    wpAny (model X.prog X.w) X.A (comprehension (dx kx vx tg iter tg1 iter1 ifs ifs1 scope pos) scope X.env pos' newDict false (eval iter X.env) use) Qf X.xe s := by
  have hfree : ∀ y ∈ scope.names, y.2 = .free → ∃ c, X.env.cells.lookup y.1 = some c := fun y hy e => I.ok.has _ ((ok.free y hy e).elim .inl .inr)
  refine wpAny_comprehension_free (use := use) rfl hs (closure_ok hfree) ok.kind (fun y hy e => by rw [ok.uniq y hy, e]) (thn (hi.run pins s σ H _ I h) fun xv s1 hx => thn hx fun itv s2 h2 => ?_)
  obtain ⟨it, fp, tn, J, H2, e, I2, T, st2, f2, q⟩ := h2
  subst e
  refine wpAny_newObj_type (newEnv_comp ?_)
  generalize hD : s2.heap.objs.size = D
  obtain ⟨W, ⟨m0, w0⟩, step⟩ := q D (I2.hok.fresh (Nat.le_of_eq hD))
  generalize hs3 : ({ s2 with heap := s2.heap.push { cls := .type "dict", data := .dict #[] } } : Shared) = s3
  have h3 : s3.heap = s2.heap.push { cls := .type "dict", data := .dict #[] } := by rw [← hs3]
  have I3 : Inv X pins σ (upd H2 D (.dK [])) s3 := by
    rw [← hs3]
    refine I2.laid (t' := s2.toks) (fun b o e => Heap.get?_push_of_some _ e) (Nat.le_of_eq hD) ?_
    rw [← hD]
    exact dk_empty s2.heap I2.big
  have f3 : ∀ b ∈ fp, FpOk X pins (upd H2 D (.dK [])) b ∧ b < s3.heap.objs.size := fun b hb => by
    obtain ⟨o, e, _⟩ := T.obj _ _ st2 b hb
    have hlt := Heap.lt_size e
    exact ⟨⟨by rw [upd_ne (by rw [← hD]; exact Nat.ne_of_lt hlt)]; exact (f2 b hb).1, (f2 b hb).2⟩, by rw [h3, Heap.size_push]; exact Nat.lt_succ_of_lt hlt⟩
  have I4 := block_start I3 ok hN f3
  generalize hcl : cellsFrom (s3.heap.objs.size + 1) scope.names (cloFrom X.env.cells scope.names []) = cl at I4 ⊢
  generalize hH3 : upd H2 D (.dK []) = H3 at I3 I4 w0 f3
  show codeAny _ _ (.compStart (dx kx vx tg iter tg1 iter1 ifs ifs1 scope pos) 0 (.ref it) (.ref D) (compEnvC scope cl s3.heap.objs.size X.env)) (compPost (model X.prog X.w) X.A X.xe use Qf (.ref D) s3.heap.objs.size) _
  have pg := hg s3 H3 s3.heap.objs.size cl fp
  have pt := ht s3 H3 s3.heap.objs.size cl fp
  have pk := hk s3 H3 s3.heap.objs.size cl fp
  have pv := he s3 H3 s3.heap.objs.size cl fp
  have pi1 := hi1 s3 H3 s3.heap.objs.size cl fp
  have pg1 := hg1 s3 H3 s3.heap.objs.size cl fp
  have pt1 := ht1 s3 H3 s3.heap.objs.size cl fp
  generalize hce : compEnvC scope cl s3.heap.objs.size X.env = ce at I4 pg pt pk pv pi1 pg1 pt1 ⊢
  have cL : ce.locals = s3.heap.objs.size := by subst hce; rfl
  generalize hs4 : ({ s3 with heap := pushCells (s3.heap.push { cls := .type "dict", data := .dict #[] }) scope.names } : Shared) = s4 at I4 ⊢
  have st4 : tn 0 s4.heap := T.keep _ _ _ st2 fun b _ o e => by rw [← hs4]; exact pushCells_keeps _ _ _ _ (Heap.get?_push_of_some _ (by rw [h3]; exact Heap.get?_push_of_some _ e))
  have fok : ∀ {σ' : L2.St} {H' : Hp} {s' : Shared}, Inv (X.blk s3 H3 scope ce fp) [] σ' H' s' → (∀ b ∈ fp, H' b = none) → ∀ b ∈ fp, FpOk (X.blk s3 H3 scope ce fp) [] H' b := fun {σ' H' s'} I' hn b hb =>
    ⟨hn b hb, (I'.ok.exf b hb).1, I'.ok.exfs b hb, .inl hb, fun x c e => (I'.ok.exf b hb).2 x c e, fun p hp => absurd (show p ∈ ([] : List (Addr × Obj)) ++ [] from hp) (by simp)⟩
  have loop : codeAny (model X.prog X.w) X.A (.compLoop (dx kx vx tg iter tg1 iter1 ifs ifs1 scope pos) 0 (.ref it) (.ref D) ce) (compPost (model X.prog X.w) X.A X.xe use Qf (.ref D) s3.heap.objs.size) s4 := by
    refine loop0 (hs1 ce) (fun n s' => ∃ i H', Inv (X.blk s3 H3 scope ce fp) [] (wipe σ (own.map (·.2))) H' s' ∧ tn i s'.heap ∧ (∀ b ∈ fp, H' b = none) ∧ W i n H') ?_ m0 ⟨0, H3, I4, st4, fun b hb => (f3 b hb).1.1, w0⟩
    rintro n s5 ⟨i, H5, I5, st5, n5, w5⟩
    rcases step i n H5 w5 with ⟨stop, qq⟩ | ⟨go, Nx, hNx, stp⟩
    · refine thnF (T.done (X.blk s3 H3 scope ce fp) rfl rfl rfl hc i [] s5 _ H5 (fun _ _ => False) I5 (fok I5 n5) st5 stop) fun r s6 ⟨hr, I6⟩ => ?_
      subst hr
      have I7 : Inv X pins σ H5 s6 := I3.call' (ch := fp) I6.os I6.base I6.hok I6.bare fun b hb => ⟨(f3 b hb).1.2.2.2.1, (f3 b hb).1.2.1, (f3 b hb).1.2.2.2.2.1, (f3 b hb).1.2.2.2.2.2⟩
      have nC : H5 s3.heap.objs.size = none := by rw [← cL]; exact I6.free
      obtain ⟨m, hn, _⟩ := I6.loc
      have hn : s6.heap.Ns ce.locals m := hn
      rw [cL] at hn
      exact hRR D s3.heap.objs.size s6 m H5 I7 qq hn (I3.fpOk (Nat.le_refl _) nC)
    · refine one_turn hc T pg pt I5 fok n5 st5 go (K := fun b σ2 H3 => if b = true then _ else Nx H3) (R0 := fun σ2 => wipe σ2 (own.map (·.2)) = wipe σ (own.map (·.2))) stp ?_
      intro b pl σ8 H9 s9 I9 hw8 q9 back
      have hl8 : (wipe σ (own.map (·.2))).length = σ8.length := by rw [← hw8, wipe_length]
      have fin : ∀ {σ9 : L2.St} {s' : Shared} {H' : Hp}, Inv (X.blk s3 H3 scope ce fp) ([] ++ pl) σ9 H' s' → (wipe σ (own.map (·.2))).length = σ9.length → (∀ (j : Nat) v, (wipe σ (own.map (·.2)))[j]? = some (some v) → σ9[j]? = some (some v)) → Nx H' →
          ∃ m, m < n ∧ ∃ i H', Inv (X.blk s3 H3 scope ce fp) [] (wipe σ (own.map (·.2))) H' s' ∧ tn i s'.heap ∧ (∀ b ∈ fp, H' b = none) ∧ W i m H' := fun {σ9 s' H'} I' hl hk nx => by
        obtain ⟨m', hm, w'⟩ := hNx H' nx
        obtain ⟨b1, b2, b3⟩ := back I'
        exact ⟨m', hm, i + 1, H', b1.weak hl hk, b2, b3, w'⟩
      cases b with
      | false =>
        simp only [Bool.false_eq_true, if_false] at q9 ⊢
        exact fin I9 hl8 (fun j v e => by rw [← hw8] at e; exact (wipe_some e).1) q9
      | true =>
        simp only [if_true] at q9 ⊢
        refine thnF (pi1.run _ s9 σ8 H9 _ I9 q9) fun xv s10 hx => thnF hx fun itv s11 h11 => ?_
        obtain ⟨it1, fp1, tn1, J1, H11, e1, I11, T1, st11, f11, W1, ⟨m1, w1⟩, step1⟩ := h11
        subst e1
        have hk9 : ∀ (j : Nat) v, (wipe σ (own.map (·.2)))[j]? = some (some v) → (wipe σ8 vs1)[j]? = some (some v) := fun j v e => by
          rw [← hw8] at e
          obtain ⟨e1, e2⟩ := wipe_some e
          rw [wipe_out fun z => e2 (hv j z)]
          exact e1
        have lp : codeAny (model X.prog X.w) X.A (.compLoop (dx kx vx tg iter tg1 iter1 ifs ifs1 scope pos) 1 (.ref it1) (.ref D) ce) (fun r s' => match r with
              | .ok _ => ∃ m, m < n ∧ ∃ i H', Inv (X.blk s3 H3 scope ce fp) [] (wipe σ (own.map (·.2))) H' s' ∧ tn i s'.heap ∧ (∀ b ∈ fp, H' b = none) ∧ W i m H'
              | .error _ => False) s11 := by
          refine loop1 (fun k s' => ∃ j H', Inv (X.blk s3 H3 scope ce fp) ([] ++ pl) (wipe σ8 vs1) H' s' ∧ tn1 j s'.heap ∧ (∀ b ∈ fp1, H' b = none) ∧ W1 j k H') ?_ m1 ⟨0, H11, I11.weak (wipe_length _ _) (fun j v e => (wipe_some e).1), st11, fun b hb => (f11 b hb).1, w1⟩
          rintro k s12 ⟨j, H12, I12, st12, n12, w12⟩
          have fok1 : ∀ {σ' : L2.St} {H' : Hp} {s' : Shared}, Inv (X.blk s3 H3 scope ce fp) ([] ++ pl) σ' H' s' → (∀ b ∈ fp1, H' b = none) → ∀ b ∈ fp1, FpOk (X.blk s3 H3 scope ce fp) ([] ++ pl) H' b := fun {σ' H' s'} _ hn b hb => ⟨hn b hb, (f11 b hb).2⟩
          rcases step1 j k H12 w12 with ⟨stop1, nx1⟩ | ⟨go1, Nx1, hNx1, stp1⟩
          · refine thnF (T1.done (X.blk s3 H3 scope ce fp) rfl rfl rfl hc j _ s12 (wipe σ8 vs1) H12 (fun _ _ => False) I12 (fok1 I12 n12) st12 stop1) fun r s13 ⟨hr, I13⟩ => ?_
            subst hr
            exact fin I13 (hl8.trans (wipe_length σ8 vs1).symm) hk9 nx1
          · refine one_turn hc T1 pg1 pt1 I12 fok1 n12 st12 go1 (K := fun b σ3 H6 => if b = true then _ else Nx1 H6) (R0 := fun σ3 => wipe σ3 vs1 = wipe σ8 vs1) stp1 ?_
            intro b1 pl1 σ15 H16 s16 I16 hw15 q16 back1
            have fin1 : ∀ {s' : Shared} {H' : Hp}, Inv (X.blk s3 H3 scope ce fp) (([] ++ pl) ++ pl1) σ15 H' s' → Nx1 H' → ∃ m, m < k ∧ ∃ j H', Inv (X.blk s3 H3 scope ce fp) ([] ++ pl) (wipe σ8 vs1) H' s' ∧ tn1 j s'.heap ∧ (∀ b ∈ fp1, H' b = none) ∧ W1 j m H' := fun {s' H'} I' nx => by
              obtain ⟨m', hm, w'⟩ := hNx1 H' nx
              obtain ⟨b1, b2, b3⟩ := back1 I'
              exact ⟨m', hm, j + 1, H', b1.weak (by rw [← hw15, wipe_length]) (fun j v e => by rw [← hw15] at e; exact (wipe_some e).1), b2, b3, w'⟩
            cases b1 with
            | false =>
              simp only [Bool.false_eq_true, if_false] at q16 ⊢
              exact fin1 I16 q16
            | true =>
              simp only [if_true] at q16 ⊢
              refine thnF (pk.run _ s16 σ15 H16 _ I16 q16) fun kv s17 ⟨yk, H17, I17, r17, q17⟩ => ?_
              refine thnF (pv.run _ s17 σ15 H17 _ I17 q17) fun vv s18 ⟨yv, H18, I18, r18, kvs, ky, ek, hD18, hz18, nx⟩ => ?_
              subst ek
              exact d_dictSet (X := X.blk s3 H3 scope ce fp) I18 hD18 hz18 r17 r18 fun s19 I19 => fin1 I19 nx
        exact start1 lp (T1.self X.A 0 _ _ _ st11 lp)
  exact codeAny_compStart_dict loop (T.self X.A 0 _ _ _ st4 loop)
theorem ps_setDc2 {X : Cx} {kx vx tg iter tg1 iter1 : Expr} {ifs ifs1 : List Expr} {scope : Scope} {own : List (Str × Nat)} {vs1 : List Nat} {pos : Pos} {wi wi1 : TI} {g g1 : TG} {tt tt1 : TT} {tk tv : TE} {i : Nat} {y : Str} {py spos : Pos} (hc : X.calm = true) (hN : X.N.Nodup) (hy : X.N[i]? = some y) (hyl : X.env.scope.names.lookup y = some .local)
    (hsw : swapsWith (.DictComp kx vx [⟨tg, iter, ifs, 0⟩, ⟨tg1, iter1, ifs1, 0⟩] scope pos) (some (.Name y py)) spos.line X.env = pure true) (hi : PI X tg iter wi) (ok : BlkOk X.N X.env.scope scope own) (hv : ∀ i ∈ vs1, i ∈ own.map (·.2))
    (hg : ∀ (s : Shared) (H : Hp) (C : Addr) (cl : List (Str × Addr)) (fp : List Addr), PG (X.blk s H scope (compEnvC scope cl C X.env) fp) tg g) (ht : ∀ (s : Shared) (H : Hp) (C : Addr) (cl : List (Str × Addr)) (fp : List Addr), PTs (X.blk s H scope (compEnvC scope cl C X.env) fp) ifs tt)
    (hi1 : ∀ (s : Shared) (H : Hp) (C : Addr) (cl : List (Str × Addr)) (fp : List Addr), PI (X.blk s H scope (compEnvC scope cl C X.env) fp) tg1 iter1 wi1)
    (hg1 : ∀ (s : Shared) (H : Hp) (C : Addr) (cl : List (Str × Addr)) (fp : List Addr), PG (X.blk s H scope (compEnvC scope cl C X.env) fp) tg1 g1) (ht1 : ∀ (s : Shared) (H : Hp) (C : Addr) (cl : List (Str × Addr)) (fp : List Addr), PTs (X.blk s H scope (compEnvC scope cl C X.env) fp) ifs1 tt1)
    (hk : ∀ (s : Shared) (H : Hp) (C : Addr) (cl : List (Str × Addr)) (fp : List Addr), PE (X.blk s H scope (compEnvC scope cl C X.env) fp) kx tk) (he : ∀ (s : Shared) (H : Hp) (C : Addr) (cl : List (Str × Addr)) (fp : List Addr), PE (X.blk s H scope (compEnvC scope cl C X.env) fp) vx tv)
    (hs : ∀ x, foldedSetIterable iter X.env x = pure x := by intro _; rfl) (hs1 : ∀ env x, foldedSetIterable iter1 env x = pure x := by intro _ _; rfl) :
    PS X (.Assign [.Name y py] (.DictComp kx vx [⟨tg, iter, ifs, 0⟩, ⟨tg1, iter1, ifs1, 0⟩] scope pos) spos) (tAsg (tDc2 wi g tt wi1 g1 tt1 tk tv (own.map (·.2)) vs1) (gName i)) := by
  refine ⟨fun pins s σ H D I h => ?_⟩
  rw [exec_Assign_Name_used _ _ _ _ hsw]
  refine wpAny_bind (wpAny_standAt (wpAny_bind ?_))
  show wpAny _ X.A (do let _ ← comprehension (dx kx vx tg iter tg1 iter1 ifs ifs1 scope pos) scope X.env (firstIterPos [⟨tg, iter, ifs, 0⟩, ⟨tg1, iter1, ifs1, 0⟩] pos) newDict false (eval iter X.env) (some (assign (.Name y py) X.env))) _ _ s
  have h : tDc2 wi g tt wi1 g1 tt1 tk tv (own.map (·.2)) vs1 σ H (fun x H1 => gName i x σ H1 D.nx) := h
  refine wpAny_bind (thn (dc2_core (Qf := fun _ s' => SP X pins D .next s') hc hN hi ok hv hg ht hi1 hg1 ht1 hk he hs hs1 I h fun L C s' m H' I' q hn f => ?_) fun _ s' hq => wpAny_pure (wpAny_pure hq))
  show wpAny _ _ (assign (.Name y py) X.env (.ref L)) _ _ _
  refine wpAny_assign_Name (store_ok2 (v := V.ref L) I' hN hy (.inl hyl) rfl (fun s2 I2 ⟨a, sb, ha⟩ => ?_) (.inr hyl))
  obtain ⟨f0, f1, f2, f3, f4, f5⟩ := f
  have haC : C ≠ a := by
    rcases ha with z | z
    · rw [z]; exact f1
    · exact fun e => f4 y a z e.symm
  refine ⟨m, hn.sameBut sb haC, fun h3 sb3 => ?_⟩
  exact ⟨_, H', I2.turned (t' := s2.toks) (fun b o hb e => (sb3.2 b hb).trans e) f0 f1 f3 f4 f5, q⟩
theorem swD_true {kx vx : Expr} {gs : List Comprehension} {scope : Scope} {pos py : Pos} {y : Str} {l : Nat} {env : Env} (hk : env.scope.kind = .function) (hy : env.scope.names.lookup y = some .local) (hl : (py.line == pos.line) = true)
    (ha : (scope.names.any fun (n, k) => n == y && (k == .local || k == .cell)) = false) : swapsWith (.DictComp kx vx gs scope pos) (some (.Name y py)) l env = pure true := by
  have ky : env.kindOf y = some .local := hy
  have hb : env.blockKind = .function := by unfold Env.blockKind; rw [hk]; rfl
  unfold swapsWith
  simp only [hb, ky, ha, Expr.pos, hl]
  rfl
theorem ps_setDc {X : Cx} {i : Nat} {y : Str} {py spos : Pos} {kx vx tg iter : Expr} {ifs : List Expr} {scope : Scope} {own : List (Str × Nat)} {pos : Pos} {wi : TI} {g : TG} {tt : TT} {tk tv : TE} (hc : X.calm = true) (hN : X.N.Nodup) (hy : X.N[i]? = some y) (hyl : X.env.scope.names.lookup y = some .local)
    (hsw : swapsWith (.DictComp kx vx [⟨tg, iter, ifs, 0⟩] scope pos) (some (.Name y py)) spos.line X.env = pure true) (hi : PI X tg iter wi) (ok : BlkOk X.N X.env.scope scope own)
    (hg : ∀ (s : Shared) (H : Hp) (C : Addr) (cl : List (Str × Addr)) (fp : List Addr), PG (X.blk s H scope (compEnvC scope cl C X.env) fp) tg g) (ht : ∀ (s : Shared) (H : Hp) (C : Addr) (cl : List (Str × Addr)) (fp : List Addr), PTs (X.blk s H scope (compEnvC scope cl C X.env) fp) ifs tt)
    (hk : ∀ (s : Shared) (H : Hp) (C : Addr) (cl : List (Str × Addr)) (fp : List Addr), PE (X.blk s H scope (compEnvC scope cl C X.env) fp) kx tk) (he : ∀ (s : Shared) (H : Hp) (C : Addr) (cl : List (Str × Addr)) (fp : List Addr), PE (X.blk s H scope (compEnvC scope cl C X.env) fp) vx tv)
    (hs : ∀ x, foldedSetIterable iter X.env x = pure x := by intro _; rfl) :
    PS X (.Assign [.Name y py] (.DictComp kx vx [⟨tg, iter, ifs, 0⟩] scope pos) spos) (tAsg (tDc wi g tt tk tv (own.map (·.2))) (gName i)) := by
  refine ⟨fun pins s σ H D I h => ?_⟩
  rw [exec_Assign_Name_used _ _ _ _ hsw]
  refine wpAny_bind (wpAny_standAt (wpAny_bind ?_))
  show wpAny _ X.A (do let _ ← comprehension (.DictComp kx vx [⟨tg, iter, ifs, 0⟩] scope pos) scope X.env (firstIterPos [⟨tg, iter, ifs, 0⟩] pos) newDict false (eval iter X.env) (some (assign (.Name y py) X.env))) _ _ s
  have h : tDc wi g tt tk tv (own.map (·.2)) σ H (fun x H1 => gName i x σ H1 D.nx) := h
  refine wpAny_bind (thn (dc_core (Qf := fun _ s' => SP X pins D .next s') hc hN I hi ok hg ht hk he hs h fun L C s' m H' I' q hn f => ?_) fun _ s' hq => wpAny_pure (wpAny_pure hq))
  show wpAny _ _ (assign (.Name y py) X.env (.ref L)) _ _ _
  refine wpAny_assign_Name (store_ok2 (v := V.ref L) I' hN hy (.inl hyl) rfl (fun s2 I2 ⟨a, sb, ha⟩ => ?_) (.inr hyl))
  obtain ⟨f0, f1, f2, f3, f4, f5⟩ := f
  have haC : C ≠ a := by
    rcases ha with z | z
    · rw [z]; exact f1
    · exact fun e => f4 y a z e.symm
  refine ⟨m, hn.sameBut sb haC, fun h3 sb3 => ?_⟩
  exact ⟨_, H', I2.turned (t' := s2.toks) (fun b o hb e => (sb3.2 b hb).trans e) f0 f1 f3 f4 f5, q⟩
end DC2
namespace P53
open PySem PySem.Spec PyProof.Rows L2 PF
def topS (i : Nat) : Stmt := PySem.Challenge.pw_mergedmail_k53_prefixes_of_posts.main.body.getD i (.Pass ⟨0, 0, 0, 0⟩)
abbrev s_under : Stmt := topS 1
abbrev N_under : List Str := ["post", "prefix", "letter", "code"]
theorem sc_under : FnScope N_under ["post", "prefix"] (defScope s_under) := ⟨rfl, rfl, rfl, by decide +kernel, rfl, by decide +kernel, by decide +kernel⟩
abbrev s_branches : Stmt := topS 2
abbrev N_branches : List Str := ["post", "prefix", "some", "letter", "one"]
theorem sc_branches : FnScope N_branches ["post", "prefix"] (defScope s_branches) := ⟨rfl, rfl, rfl, by decide +kernel, rfl, by decide +kernel, by decide +kernel⟩
abbrev s_all_prefixes : Stmt := topS 3
abbrev N_all_prefixes : List Str := ["post", "found", "code", "many", "less", "prefix", "one"]
theorem sc_all_prefixes : FnScope N_all_prefixes ["post"] (defScope s_all_prefixes) := ⟨rfl, rfl, rfl, by decide +kernel, rfl, by decide +kernel, by decide +kernel⟩
abbrev s_deepest : Stmt := topS 4
abbrev N_deepest : List Str := ["post", "least", "some", "prefix", "one", "its"]
theorem sc_deepest : FnScope N_deepest ["post", "least"] (defScope s_deepest) := ⟨rfl, rfl, rfl, by decide +kernel, rfl, by decide +kernel, by decide +kernel⟩
abbrev s__law_take : Stmt := topS 6
abbrev N__law_take : List Str := ["bag", "many", "cell", "stirred", "value", "begin", "second"]
theorem sc__law_take : FnScope N__law_take ["bag", "many"] (defScope s__law_take) := ⟨rfl, rfl, rfl, by decide +kernel, rfl, by decide +kernel, by decide +kernel⟩
abbrev s__law_some : Stmt := topS 7
abbrev N__law_some : List Str := ["bag", "things"]
theorem sc__law_some : FnScope N__law_some ["bag", "things"] (defScope s__law_some) := ⟨rfl, rfl, rfl, by decide +kernel, rfl, by decide +kernel, by decide +kernel⟩
abbrev s__law_bag : Stmt := topS 8
abbrev N__law_bag : List Str := ["script", "cell"]
theorem sc__law_bag : FnScope N__law_bag ["script"] (defScope s__law_bag) := ⟨rfl, rfl, rfl, by decide +kernel, rfl, by decide +kernel, by decide +kernel⟩
abbrev s__law_alike : Stmt := topS 9
abbrev N__law_alike : List Str := ["found", "due", "pairs", "at", "one", "other"]
theorem sc__law_alike : FnScope N__law_alike ["found", "due"] (defScope s__law_alike) := ⟨rfl, rfl, rfl, by decide +kernel, rfl, by decide +kernel, by decide +kernel⟩
abbrev s__law_post : Stmt := topS 10
abbrev N__law_post : List Str := ["bag", "most", "base", "sign", "found", "letter", "cut"]
theorem sc__law_post : FnScope N__law_post ["bag", "most"] (defScope s__law_post) := ⟨rfl, rfl, rfl, by decide +kernel, rfl, by decide +kernel, by decide +kernel⟩
abbrev s_law : Stmt := topS 11
abbrev N_law : List Str := ["script", "bag", "turn", "post", "kept", "every", "code", "end", "prefix", "lot", "at", "longer", "again", "told", "least", "good", "one", "last", "other"]
theorem sc_law : FnScope N_law ["script"] (defScope s_law) := ⟨rfl, rfl, rfl, by decide +kernel, rfl, by decide +kernel, by decide +kernel⟩
structure Txt (P : Program) (w : World) (K : PySem.W.Frag) (er : Er → Hp → Value → Option Addr → Prop) (mg : Str → Option Value) (base : Heap) (a_under a_branches a_all_prefixes a_deepest a__law_take a__law_some a__law_bag a__law_alike a__law_post a_law : Addr) (d_under d_branches d_all_prefixes d_deepest d__law_take d__law_some d__law_bag d__law_alike d__law_post d_law : FuncData) : Prop where
  F_under : Fun K "under" "under" s_under a_under d_under
  g_under : mg "under" = some (.ref a_under)
  b_under : Binds K d_under ["post", "prefix"] []
  F_branches : Fun K "branches" "branches" s_branches a_branches d_branches
  g_branches : mg "branches" = some (.ref a_branches)
  b_branches : Binds K d_branches ["post", "prefix"] []
  F_all_prefixes : Fun K "all_prefixes" "all_prefixes" s_all_prefixes a_all_prefixes d_all_prefixes
  g_all_prefixes : mg "all_prefixes" = some (.ref a_all_prefixes)
  b_all_prefixes : Binds K d_all_prefixes ["post"] []
  F_deepest : Fun K "deepest" "deepest" s_deepest a_deepest d_deepest
  g_deepest : mg "deepest" = some (.ref a_deepest)
  b_deepest : Binds K d_deepest ["post", "least"] []
  F__law_take : Fun K "_law_take" "_law_take" s__law_take a__law_take d__law_take
  g__law_take : mg "_law_take" = some (.ref a__law_take)
  b__law_take : Binds K d__law_take ["bag", "many"] []
  F__law_some : Fun K "_law_some" "_law_some" s__law_some a__law_some d__law_some
  g__law_some : mg "_law_some" = some (.ref a__law_some)
  b__law_some : Binds K d__law_some ["bag", "things"] []
  F__law_bag : Fun K "_law_bag" "_law_bag" s__law_bag a__law_bag d__law_bag
  g__law_bag : mg "_law_bag" = some (.ref a__law_bag)
  b__law_bag : Binds K d__law_bag ["script"] []
  F__law_alike : Fun K "_law_alike" "_law_alike" s__law_alike a__law_alike d__law_alike
  g__law_alike : mg "_law_alike" = some (.ref a__law_alike)
  b__law_alike : Binds K d__law_alike ["found", "due"] []
  F__law_post : Fun K "_law_post" "_law_post" s__law_post a__law_post d__law_post
  g__law_post : mg "_law_post" = some (.ref a__law_post)
  b__law_post : Binds K d__law_post ["bag", "most"] []
  F_law : Fun K "law" "law" s_law a_law d_law
  g_law : mg "law" = some (.ref a_law)
  b_law : Binds K d_law ["script"] []
  z_abs : mg "abs" = none
  z_any : mg "any" = none
  z_bool : mg "bool" = none
  z_enumerate : mg "enumerate" = none
  z_int : mg "int" = none
  z_isinstance : mg "isinstance" = none
  z_len : mg "len" = none
  z_list : mg "list" = none
  z_range : mg "range" = none
  z_repr : mg "repr" = none
  z_set : mg "set" = none
  z_sorted : mg "sorted" = none
  z_str : mg "str" = none
  z_tuple : mg "tuple" = none
  z_zip : mg "zip" = none
noncomputable def fi_under_1 : FI := (fEnum (fCons (fVar 0) fNil))
noncomputable def fc_under_1 : FT := (fTmpB (fTest (fOp2 eqD (fSl slD (fVar 3) fNo (fSo (fCB lenD (fCons (fVar 1) fNil)))) (fVar 1))))
noncomputable def fe_under_1 : FE := (fVar 2)
noncomputable def fs_under : FS := (fRet (fCB tupleD (fCons (fVal (fLc fi_under_1 (gT 2 (gConsF (gN 2) (gConsF (gN 3) gNilF))) fc_under_1 fe_under_1 [2, 3])) fNil)))
noncomputable def F_under : List D → RP := fun ds => noE (runP 2 N_under.length fs_under ds)
theorem ref_under : ∀ ds, F_under ds ≠ .no → (runP 2 N_under.length fs_under ds = F_under ds ∧ ∀ e, F_under ds ≠ .er e) := fun _ h => noE_ref _ h
noncomputable def fi_all_prefixes_1 : FI := (fIter (fVar 0))
noncomputable def fi_all_prefixes_2 : FI := (fRng1 (fCons (fOp2 addD (fCB lenD (fCons (fVar 2) fNil)) (fC (.int 1))) fNil))
noncomputable def fe_all_prefixes_1 : FE := (fTmp (fSl slD (fVar 2) fNo (fSo (fVar 3))))
noncomputable def fe_all_prefixes_2 : FE := (fC (.bl true))
noncomputable def fe_all_prefixes_3 : FE := (fTup (fCons (fOp2 subD (fC (.int 0)) (fCB lenD (fCons (fVar 6) fNil))) (fCons (fVar 6) fNil)))
noncomputable def fi_all_prefixes_3 : FI := (fIter (fVal (fCB sortedV (fCons (fVal (fLcK 1 (gN 6) fYes fe_all_prefixes_3 [6])) fNil))))
noncomputable def fe_all_prefixes_4 : FE := (fVar 5)
noncomputable def fs_all_prefixes : FS := (fSeq (fAsg (fTmp (fDc2 fi_all_prefixes_1 (gN 2) fYes fi_all_prefixes_2 (gN 3) fYes fe_all_prefixes_1 fe_all_prefixes_2 [2, 3] [3])) (gN 1))
    (fRet (fLc fi_all_prefixes_3 (gT 2 (gConsF (gN 4) (gConsF (gN 5) gNilF))) fYes fe_all_prefixes_4 [4, 5])))
noncomputable def F_all_prefixes : List D → RP := fun ds => noE (runP 1 N_all_prefixes.length fs_all_prefixes ds)
theorem ref_all_prefixes : ∀ ds, F_all_prefixes ds ≠ .no → (runP 1 N_all_prefixes.length fs_all_prefixes ds = F_all_prefixes ds ∧ ∀ e, F_all_prefixes ds ≠ .er e) := fun _ h => noE_ref _ h
noncomputable def fs__law_take : FS := (fSeq (fIfS (fTest (fOp2 eqD (fOp2 ixD (fVar 0) (fC (.int 0))) (fC (.int 0)))) (fSeq (fAsg (fTmp (fOp2 ixD (fOp2 addD (fSl slD (fOp2 ixD (fVar 0) (fC (.int 3))) (fSo (fOp2 ixD (fVar 0) (fC (.int 2)))) fNo) (fLst (fCons (fC (.int 0)) fNil))) (fC (.int 0)))) (gN 2))
    (fSeq (fAugL (fVar 0) (fC (.int 2)) (fC (.int 1)) iaddD)
    (fSeq (fIfS (fTest (fOp2 geD (fVar 2) (fOp2 powD (fC (.int 10)) (fC (.int 18))))) (fAsg (fVar 2) (gS (fVar 0) (fC (.int 0)))) fNext)
    (fSeq (fAsg (fOp2 addD (fOp2 addD (fOp2 mulD (fOp2 ixD (fVar 0) (fC (.int 1))) (fC (.int 48271))) (fOp2 modD (fCB intD (fCons (fVar 2) fNil)) (fC (.int 2147483647)))) (fOp2 mulD (fC (.int 7919)) (fOp2 ixD (fVar 0) (fC (.int 2))))) (gN 3))
    (fAsg (fOp2 modD (fCB intD (fCons (fVar 3) fNil)) (fC (.int 2147483647))) (gS (fVar 0) (fC (.int 1)))))))) fNext)
    (fSeq (fIfS (fTest (fOp2 gtD (fOp2 ixD (fVar 0) (fC (.int 0))) (fC (.int 0)))) (fSeq (fAsg (fOp2 modD (fCB intD (fCons (fOp2 ixD (fVar 0) (fC (.int 0))) fNil)) (fVar 1)) (gN 4))
    (fSeq (fAsg (fOp2 fdivD (fCB intD (fCons (fOp2 ixD (fVar 0) (fC (.int 0))) fNil)) (fVar 1)) (gS (fVar 0) (fC (.int 0))))
    (fRet (fVar 4)))) fNext)
    (fSeq (fAsg (fOp2 modD (fCB intD (fCons (fOp2 mulD (fOp2 addD (fOp2 ixD (fVar 0) (fC (.int 1))) (fC (.int 1))) (fC (.int 39373))) fNil)) (fC (.int 1000000007))) (gN 5))
    (fSeq (fAsg (fOp2 modD (fCB intD (fCons (fOp2 mulD (fOp2 modD (fCB intD (fCons (fOp2 mulD (fVar 5) (fVar 5)) fNil)) (fC (.int 998244353))) (fC (.int 30011))) fNil)) (fC (.int 998244353))) (gN 6))
    (fRet (fOp2 modD (fCB intD (fCons (fOp2 fdivD (fVar 6) (fC (.int 7))) fNil)) (fVar 1)))))))
noncomputable def F__law_take : List D → List Int → Bn → RB := runB 2 N__law_take.length fs__law_take
theorem ref__law_take : ∀ ds cs b, F__law_take ds cs b ≠ .no → runB 2 N__law_take.length fs__law_take ds cs b = F__law_take ds cs b := fun _ _ _ _ => rfl
noncomputable def fi__law_bag_1 : FI := (fIter (fSl slD (fVar 0) fNo (fSo (fC (.int 63)))))
noncomputable def fe__law_bag_1 : FE := (fCB absD (fCons (fVar 1) fNil))
noncomputable def fs__law_bag : FS := (fRet (fLst (fCons (fC (.int 0)) (fCons (fC (.int 1234567891)) (fCons (fC (.int 0)) (fCons (fLc fi__law_bag_1 (gN 1) fYes fe__law_bag_1 [1]) fNil))))))
noncomputable def ft__law_alike_1 : FT := (fTest (fOp2 ltD (fVar 3) (fCB lenD (fCons (fVar 2) fNil))))
noncomputable def fb__law_alike_1 : FS := (fSeq (fAsg (fOp2 ixD (fVar 2) (fVar 3)) (gT 2 (gConsF (gN 4) (gConsF (gN 5) gNilF))))
    (fSeq (fAug 3 iaddD (fC (.int 1)))
    (fSeq (fIfS (fOr (fTest (fOp2 neD (fIsi (fVar 4) ["bool"]) (fIsi (fVar 5) ["bool"]))) (fTest (fOp2 neD (fIsi (fVar 4) ["str"]) (fIsi (fVar 5) ["str"])))) (fRet (fC (.bl false))) fNext)
    (fSeq (fIfS (fTest (fOp2 neD (fIsi (fVar 4) ["tuple", "list"]) (fIsi (fVar 5) ["tuple", "list"]))) (fRet (fC (.bl false))) fNext)
    (fIfS (fTru (fIsi (fVar 4) ["tuple", "list"])) (fSeq (fIfS (fOr (fTest (fOp2 neD (fIsi (fVar 4) ["tuple"]) (fIsi (fVar 5) ["tuple"]))) (fTest (fOp2 neD (fCB lenD (fCons (fVar 4) fNil)) (fCB lenD (fCons (fVar 5) fNil))))) (fRet (fC (.bl false))) fNext)
    (fDrop (fBM "list" extendD (fVar 2) (fCons (fTmp (fCB zipD (fCons (fVar 4) (fCons (fVar 5) fNil)))) fNil)))) (fIfS (fTest (fOp2 neD (fVar 4) (fVar 5))) (fRet (fC (.bl false))) fNext))))))
noncomputable def fs__law_alike : FS := (fSeq (fPar 2 3 (fCons (fLst (fCons (fTup (fCons (fVar 0) (fCons (fVar 1) fNil))) fNil)) (fCons (fC (.int 0)) fNil)))
    (fSeq (fWhile ft__law_alike_1 fb__law_alike_1)
    (fRet (fC (.bl true)))))
noncomputable def F__law_alike : List D → RP := fun ds => noE (runP 2 N__law_alike.length fs__law_alike ds)
theorem ref__law_alike : ∀ ds, F__law_alike ds ≠ .no → (runP 2 N__law_alike.length fs__law_alike ds = F__law_alike ds ∧ ∀ e, F__law_alike ds ≠ .er e) := fun _ h => noE_ref _ h
noncomputable def fi_branches_1 : FI := (fIter (fCall F_under (fCons (fVar 0) (fCons (fVar 1) fNil))))
noncomputable def fc_branches_1 : FT := (fTest (fOp2 gtD (fCB lenD (fCons (fOp2 ixD (fVar 0) (fVar 3)) fNil)) (fCB lenD (fCons (fVar 1) fNil))))
noncomputable def fe_branches_1 : FE := (fTmp (fSl slD (fOp2 ixD (fVar 0) (fVar 3)) fNo (fSo (fOp2 addD (fCB lenD (fCons (fVar 1) fNil)) (fC (.int 1))))))
noncomputable def fi_branches_2 : FI := (fIter (fVar 2))
noncomputable def fe_branches_2 : FE := (fVar 4)
noncomputable def fe_branches_3 : FE := (fC (.bl true))
noncomputable def fs_branches : FS := (fSeq (fAsg (fVal (fLc fi_branches_1 (gN 3) fc_branches_1 fe_branches_1 [3])) (gN 2))
    (fRet (fCB tupleD (fCons (fVal (fCB sortedA (fCons (fDc fi_branches_2 (gN 4) fYes fe_branches_2 fe_branches_3 [4]) fNil))) fNil))))
noncomputable def F_branches : List D → RP := fun ds => noE (runP 2 N_branches.length fs_branches ds)
theorem ref_branches : ∀ ds, F_branches ds ≠ .no → (runP 2 N_branches.length fs_branches ds = F_branches ds ∧ ∀ e, F_branches ds ≠ .er e) := fun _ h => noE_ref _ h
noncomputable def fi_deepest_1 : FI := (fIter (fVal (fCall F_all_prefixes (fCons (fVar 0) fNil))))
noncomputable def fc_deepest_1 : FT := (fTmpB (fTest (fOp2 geD (fCB lenD (fCons (fCall F_under (fCons (fVar 0) (fCons (fVar 3) fNil))) fNil)) (fVar 1))))
noncomputable def fe_deepest_1 : FE := (fVar 3)
noncomputable def fi_deepest_2 : FI := (fIter (fVar 2))
noncomputable def fe_deepest_2 : FE := (fTmp (fAndV (fOp2 neD (fVar 5) (fVar 4)) (fOp2 eqD (fSl slD (fVar 5) fNo (fSo (fCB lenD (fCons (fVar 4) fNil)))) (fVar 4))))
noncomputable def fi_deepest_3 : FI := (fIter (fVar 2))
noncomputable def fc_deepest_2 : FT := (fTmpB (fNot (fTru (fCB anyD (fCons (fVal (fLc fi_deepest_2 (gN 5) fYes fe_deepest_2 [5])) fNil)))))
noncomputable def fe_deepest_3 : FE := (fVar 4)
noncomputable def fs_deepest : FS := (fSeq (fAsg (fVal (fLc fi_deepest_1 (gN 3) fc_deepest_1 fe_deepest_1 [3])) (gN 2))
    (fRet (fCB tupleD (fCons (fVal (fCB sortedV (fCons (fVal (fLc fi_deepest_3 (gN 4) fc_deepest_2 fe_deepest_3 [4])) fNil))) fNil))))
noncomputable def F_deepest : List D → RP := fun ds => noE (runP 2 N_deepest.length fs_deepest ds)
theorem ref_deepest : ∀ ds, F_deepest ds ≠ .no → (runP 2 N_deepest.length fs_deepest ds = F_deepest ds ∧ ∀ e, F_deepest ds ≠ .er e) := fun _ h => noE_ref _ h
noncomputable def fs__law_some : FS := (fRet (fOp2 ixD (fVar 1) (fCallB F__law_take (fCons (fVar 0) (fCons (fCB lenD (fCons (fVar 1) fNil)) fNil)))))
noncomputable def F__law_some : List D → List Int → Bn → RB := runB 2 N__law_some.length fs__law_some
theorem ref__law_some : ∀ ds cs b, F__law_some ds cs b ≠ .no → runB 2 N__law_some.length fs__law_some ds cs b = F__law_some ds cs b := fun _ _ _ _ => rfl
noncomputable def fi__law_post_1 : FI := (fRng1 (fCons (fC (.int 3)) fNil))
noncomputable def fe__law_post_1 : FE := (fTmp (fCallB F__law_some (fCons (fVar 0) (fCons (fVal (fLst (fCons (fC (.str [49])) (fCons (fC (.str [50])) fNil)))) fNil))))
noncomputable def fi__law_post_2 : FI := (fRng1 (fCons (fOp2 addD (fC (.int 1)) (fCallB F__law_take (fCons (fVar 0) (fCons (fVar 1) fNil)))) fNil))
noncomputable def fb__law_post_1 : FS := (fSeq (fAsg (fTmp (fCallB F__law_take (fCons (fVar 0) (fCons (fC (.int 4)) fNil)))) (gN 6))
    (fDrop (fBM "list" appendD (fVar 4) (fCons (fTmp (fSl slD (fOp2 addD (fSl slD (fVar 2) fNo (fSo (fVar 6))) (fCallB F__law_some (fCons (fVar 0) (fCons (fVal (fLst (fCons (fC (.str [49])) (fCons (fC (.str [50])) (fCons (fC (.str [49, 50])) (fCons (fC (.str [50, 49])) fNil)))))) fNil)))) fNo (fSo (fOp2 addD (fC (.int 1)) (fCallB F__law_take (fCons (fVar 0) (fCons (fC (.int 4)) fNil))))))) fNil))))
noncomputable def fs__law_post : FS := (fSeq (fAsg (fTmp (fM1 joinD (fC (.str [])) (fVal (fLc fi__law_post_1 (gN 3) fYes fe__law_post_1 [3])))) (gN 2))
    (fSeq (fAsg (fTmp (fLst fNil)) (gN 4))
    (fSeq (fFor fi__law_post_2 (gN 5) fb__law_post_1)
    (fRet (fCB tupleD (fCons (fVar 4) fNil))))))
noncomputable def F__law_post : List D → List Int → Bn → RB := runB 2 N__law_post.length fs__law_post
theorem ref__law_post : ∀ ds cs b, F__law_post ds cs b ≠ .no → runB 2 N__law_post.length fs__law_post ds cs b = F__law_post ds cs b := fun _ _ _ _ => rfl
noncomputable def fi_law_1 : FI := (fRng1 (fCons (fOp2 addD (fCB lenD (fCons (fVar 6) fNil)) (fC (.int 1))) fNil))
noncomputable def fe_law_1 : FE := (fTmp (fSl slD (fVar 6) fNo (fSo (fVar 7))))
noncomputable def fi_law_2 : FI := (fIter (fVar 3))
noncomputable def fb_law_1 : FS := (fDrop (fBM "list" extendD (fVar 5) (fCons (fVal (fLc fi_law_1 (gN 7) fYes fe_law_1 [7])) fNil)))
noncomputable def fi_law_3 : FI := (fEnum (fCons (fVar 3) fNil))
noncomputable def fc_law_1 : FT := (fTmpB (fTest (fOp2 eqD (fSl slD (fVar 6) fNo (fSo (fCB lenD (fCons (fVar 8) fNil)))) (fVar 8))))
noncomputable def fe_law_2 : FE := (fVar 10)
noncomputable def fi_law_4 : FI := (fIter (fVar 9))
noncomputable def fc_law_2 : FT := (fTest (fOp2 gtD (fCB lenD (fCons (fOp2 ixD (fVar 3) (fVar 10)) fNil)) (fCB lenD (fCons (fVar 8) fNil))))
noncomputable def fe_law_3 : FE := (fTmp (fSl slD (fOp2 ixD (fVar 3) (fVar 10)) fNo (fSo (fOp2 addD (fCB lenD (fCons (fVar 8) fNil)) (fC (.int 1))))))
noncomputable def fi_law_5 : FI := (fRng1 (fCons (fC (.int 2)) fNil))
noncomputable def fb_law_2 : FS := (fSeq (fAsg (fVal (fLst (fCons (fCall F_under (fCons (fVar 3) (fCons (fVar 8) fNil))) (fCons (fCall F_branches (fCons (fVar 3) (fCons (fVar 8) fNil))) fNil)))) (gN 13))
    (fIfS (fTmpB (fOr (fNot (fTru (fCall F__law_alike (fCons (fVar 13) (fCons (fVal (fLst (fCons (fCB tupleD (fCons (fVar 9) fNil)) (fCons (fCB tupleD (fCons (fVar 11) fNil)) fNil)))) fNil))))) (fTest (fOp2 neD (fCB reprD (fCons (fVar 3) fNil)) (fVar 4))))) (fRet (fC (.bl false))) fNext))
noncomputable def fi_law_6 : FI := (fIter (fVal (fOp2 addD (fVar 5) (fVal (fLst (fCons (fC (.str [57])) (fCons (fC (.str [51, 51])) (fCons (fC (.str [49, 50, 51, 52, 53, 54])) fNil))))))))
noncomputable def fb_law_3 : FS := (fSeq (fAsg (fVal (fLc fi_law_3 (gT 2 (gConsF (gN 10) (gConsF (gN 6) gNilF))) fc_law_1 fe_law_2 [10, 6])) (gN 9))
    (fSeq (fAsg (fVal (fSS (fVal (fLc fi_law_4 (gN 10) fc_law_2 fe_law_3 [10])))) (gN 11))
    (fFor fi_law_5 (gN 12) fb_law_2)))
noncomputable def fi_law_7 : FI := (fIter (fVar 3))
noncomputable def fc_law_3 : FT := (fTmpB (fTest (fOp2 eqD (fSl slD (fVar 6) fNo (fSo (fCB lenD (fCons (fVar 16) fNil)))) (fVar 16))))
noncomputable def fe_law_4 : FE := (fC (.int 1))
noncomputable def fi_law_8 : FI := (fIter (fVar 5))
noncomputable def fc_law_4 : FT := (fTmpB (fTest (fOp2 geD (fCB lenD (fCons (fVal (fLc fi_law_7 (gN 6) fc_law_3 fe_law_4 [6])) fNil)) (fVar 14))))
noncomputable def fe_law_5 : FE := (fVar 16)
noncomputable def fi_law_9 : FI := (fIter (fVar 15))
noncomputable def fc_law_5 : FT := (fTmpB (fAnd (fTest (fOp2 neD (fVar 18) (fVar 16))) (fTest (fOp2 eqD (fSl slD (fVar 18) fNo (fSo (fCB lenD (fCons (fVar 16) fNil)))) (fVar 16)))))
noncomputable def fe_law_6 : FE := (fC (.int 1))
noncomputable def fi_law_10 : FI := (fIter (fVar 15))
noncomputable def fc_law_6 : FT := (fTmpB (fTest (fOp2 eqD (fVal (fLc fi_law_9 (gN 18) fc_law_5 fe_law_6 [18])) (fVal (fLst fNil)))))
noncomputable def fe_law_7 : FE := (fVar 16)
noncomputable def fi_law_11 : FI := (fIter (fTup (fCons (fC (.int 1)) (fCons (fC (.int 2)) (fCons (fC (.int 3)) (fCons (fC (.int 9)) fNil))))))
noncomputable def fb_law_4 : FS := (fSeq (fAsg (fVal (fLc fi_law_8 (gN 16) fc_law_4 fe_law_5 [16])) (gN 15))
    (fSeq (fAsg (fVal (fLc fi_law_10 (gN 16) fc_law_6 fe_law_7 [16])) (gN 17))
    (fIfS (fTmpB (fNot (fTru (fCall F__law_alike (fCons (fCall F_deepest (fCons (fVar 3) (fCons (fVar 14) fNil))) (fCons (fCB tupleD (fCons (fVar 17) fNil)) fNil)))))) (fRet (fC (.bl false))) fNext)))
noncomputable def fi_law_12 : FI := (fRng1 (fCons (fC (.int 8)) fNil))
noncomputable def fb_law_5 : FS := (fSeq (fAsg (fTmp (fCallB F__law_post (fCons (fVar 1) (fCons (fC (.int 9)) fNil)))) (gN 3))
    (fSeq (fPar 4 5 (fCons (fCB reprD (fCons (fVar 3) fNil)) (fCons (fLst fNil) fNil)))
    (fSeq (fFor fi_law_2 (gN 6) fb_law_1)
    (fSeq (fAsg (fTmp (fSS (fVar 5))) (gN 5))
    (fSeq (fFor fi_law_6 (gN 8) fb_law_3)
    (fFor fi_law_11 (gN 14) fb_law_4))))))
noncomputable def fs_law : FS := (fSeq (fAsg (fNewB (fCons (fVar 0) fNil)) (gN 1))
    (fSeq (fFor fi_law_12 (gN 2) fb_law_5)
    (fRet (fC (.bl true)))))
/-! ### under, branches -/
open XS
abbrev S := List Nat
def natD (n : Nat) : D := .int ((n : Nat) : Int)
instance {l : List Nat} : PursC (l.map natD) := pursC_map fun _ => rfl
def pD (P : List S) : D := .tup (P.map D.str)
theorem pD_pur (P : List S) : (pD P).pur = true := by unfold pD; rw [pur_tup]; exact purs_map_str' P
instance {P : List S} : PurC (pD P) := ⟨pD_pur P⟩
instance {P : List S} : NorC (pD P) := ⟨nor_of_pur _ (pD_pur P)⟩
def pre (p c : S) : Bool := c.take p.length == p
theorem enum_f {α : Type} (f : α → D) : ∀ (l : List α) (k : Nat), enumL k (l.map f) = (l.zipIdx k).map fun x => D.tup [.int ((x.2 : Nat) : Int), f x.1]
  | [], _ => rfl
  | x :: r, k => by simp only [List.map_cons, enumL, List.zipIdx_cons, enum_f f r]
def und (P : List S) (p : S) : List Nat := (P.zipIdx.filter fun x => pre p x.1).map Prod.snd
theorem und_lt {P : List S} {p : S} {i : Nat} (m : i ∈ und P p) : i < P.length := by
  obtain ⟨x, mx, rfl⟩ := List.mem_map.mp m
  have := List.mem_zipIdx (List.mem_filter.mp mx).1
  omega
theorem und_len (P : List S) (p : S) : (und P p).length ≤ P.length := by
  unfold und
  rw [List.length_map]
  have := List.length_filter_le (fun x : S × Nat => pre p x.1) P.zipIdx
  rwa [List.length_zipIdx] at this
def som (P : List S) (p : S) : List S := ((und P p).filter fun i => decide (p.length < (P.getD i []).length)).map fun i => (P.getD i []).take (p.length + 1)
theorem som_len (P : List S) (p : S) : (som P p).length ≤ P.length := by
  unfold som
  rw [List.length_map]
  exact Nat.le_trans (List.length_filter_le _ _) (und_len P p)
theorem ixP (P : List S) {i : Nat} (hi : i < P.length) : atI (P.map D.str) (i : Int) = some (.str (P.getD i [])) := by
  rw [PF.atI_nat, List.getElem?_map, List.getElem?_eq_getElem hi]
  simp [List.getD_eq_getElem?_getD, List.getElem?_eq_getElem hi]
theorem putD_nors {kvs : List (D × D)} {k v : D} (h : nors (kvs.map Prod.snd) = true) (hv : v.nor = true) : nors ((putD kvs k v).map Prod.snd) = true := by
  refine nors_of fun d m => ?_
  obtain ⟨p, mp, rfl⟩ := List.mem_map.mp m
  unfold putD at mp
  split at mp
  · obtain ⟨q, mq, rfl⟩ := List.mem_map.mp mp
    split
    · exact hv
    · exact nors_mem h (List.mem_map_of_mem mq)
  · rcases List.mem_append.mp mp with z | z
    · exact nors_mem h (List.mem_map_of_mem z)
    · rw [List.mem_singleton.mp z]; exact hv
section
variable {P : List S} (hP : P.length ≤ 50) (p : S)
include hP
theorem under_ev : F_under [pD P, .str p] = .val (.tup ((und P p).map natD)) := by
  refine runP_w rfl (pur_tup _ ▸ (inferInstance : PursC ((und P p).map natD)).p) ?_
  unfold fs_under pD
  simp only [List.map_cons, List.map_nil, List.cons_append, List.nil_append, List.length_cons, List.length_nil, Nat.reduceAdd, Nat.reduceSub, List.reduceReplicate, List.append_nil]
  repeat refine go ?_
  refine w_vlc (b := ⟨0, 0, 0⟩) frm_0 ?_
  unfold fi_under_1 fc_under_1 fe_under_1
  repeat refine go ?_
  refine ⟨⟨0, 0, 0⟩, rfl, S × Nat, fun x => .tup [natD x.2, .str x.1], P.zipIdx, fun done acc => acc = ((done.filter fun x => pre p x.1).map Prod.snd).map natD, ?_⟩
  constructor
  · exact enum_f D.str P 0
  · rw [List.length_zipIdx]; omega
  · rfl
  · exact fun _ _ => good_nil _ _
  · rfl
  · rintro done x rest acc b1 hd rfl hnr
    haveI := NorsC.mk hnr
    simp only [wipeE, List.set_cons_succ, List.set_cons_zero]
    repeat refine go ?_
    rw [cut_to]
    change cnd (pre p x.1) _ _
    cases hc : pre p x.1 with
    | true =>
      refine cnd_it rfl ?_
      repeat refine go ?_
      exact ⟨b1, rfl, rfl, by simp [List.filter_append, hc]⟩
    | false => exact cnd_if rfl ⟨b1, rfl, by simp [List.filter_append, hc]⟩
  · rintro acc b1 rfl hnr
    haveI := NorsC.mk hnr
    repeat refine go ?_
    rfl
theorem branches_ev : F_branches [pD P, .str p] = .val (.tup ((canonL (som P p)).map D.str)) := by
  refine runP_w rfl (by rw [pur_tup]; exact purs_map_str' _) ?_
  unfold fs_branches pD
  simp only [List.map_cons, List.map_nil, List.cons_append, List.nil_append, List.length_cons, List.length_nil, Nat.reduceAdd, Nat.reduceSub, List.reduceReplicate, List.append_nil]
  repeat refine go ?_
  refine w_vlc (b := ⟨0, 0, 0⟩) frm_0 ?_
  unfold fi_branches_1 fc_branches_1 fe_branches_1
  repeat refine go ?_
  refine ev_val (under_ev hP p) ?_
  repeat refine go ?_
  have hu := und_len P p
  refine ⟨⟨0, 0, 0⟩, rfl, Nat, natD, und P p, fun done acc => acc = ((done.filter fun i => decide (p.length < (P.getD i []).length)).map fun i => (P.getD i []).take (p.length + 1)).map D.str, ?_⟩
  constructor
  · rfl
  · omega
  · rfl
  · exact fun _ _ => good_nil _ _
  · rfl
  · rintro done i rest acc b1 hd rfl hnr
    haveI := NorsC.mk hnr
    have hi := und_lt (P := P) (p := p) (i := i) (by rw [hd]; simp)
    simp only [wipeE, List.set_cons_succ, List.set_cons_zero]
    rw [show natD i = .int (i : Int) from rfl]
    repeat refine go ?_
    refine asAt_i (ixP P hi) ?_
    repeat refine go ?_
    refine cnd_dec (fun c => ?_) (fun c => ?_)
    · repeat refine go ?_
      refine asAt_i (ixP P hi) ?_
      repeat refine go ?_
      rw [show (p.length : Int) + 1 = ((p.length + 1 : Nat) : Int) by omega, cut_to]
      refine ⟨b1, rfl, rfl, ?_⟩
      have c' : decide (p.length < (P.getD i []).length) = true := by rw [decide_eq_true_eq]; omega
      simp only [List.filter_append, List.filter_cons, c', if_true, List.filter_nil, List.map_append, List.map_cons, List.map_nil]
    · refine ⟨b1, rfl, ?_⟩
      have c' : decide (p.length < (P.getD i []).length) = false := by rw [decide_eq_false_iff_not]; omega
      simp only [List.filter_append, List.filter_cons, c', Bool.false_eq_true, if_false, List.filter_nil, List.append_nil]
  · rintro acc b1 rfl hnr
    haveI := NorsC.mk hnr
    repeat refine go ?_
    have hs := som_len P p
    change wp (fDc fi_branches_2 (gN 4) fYes fe_branches_2 fe_branches_3 [4] [some (.tup (P.map D.str)), some (.str p), some (.lst ((som P p).map D.str)), none, none] []) _
    refine w_dc (b := ⟨0, 0, 0⟩) frm_0 ?_
    unfold fi_branches_2 fe_branches_2 fe_branches_3
    repeat refine go ?_
    refine ⟨⟨0, 0, 0⟩, rfl, S, D.str, som P p, fun done kvs => kvs.map Prod.fst = (fk done).map D.str ∧ nors (kvs.map Prod.snd) = true, ?_⟩
    constructor
    · rfl
    · exact fun _ _ => good_nil _ _
    · exact ⟨rfl, rfl⟩
    · rintro done x rest kvs b1 hd ⟨hk, hv⟩
      have hl : kvs.length ≤ done.length := by
        have e := congrArg List.length hk
        rw [List.length_map, List.length_map] at e
        rw [e]
        exact (fk_ok done).2.2
      have hd' := congrArg List.length hd
      rw [List.length_append, List.length_cons] at hd'
      simp only [wipeE, List.set_cons_succ, List.set_cons_zero]
      repeat refine go ?_
      refine ⟨b1, rfl, rfl, by omega, ?_, putD_nors hv rfl⟩
      rw [put_keys hk, fk_snoc]
    · rintro kvs b1 ⟨hk, hv⟩
      have hl : (fk (som P p)).length ≤ (som P p).length := (fk_ok _).2.2
      repeat refine go ?_
      refine w_sortedK (l := fk (som P p)) (by rfl) hk (by omega) ?_
      rw [fk_sort]
      refine f_newJ (fr := fun _ r => r) (b := b1) (b' := b1) (r := []) (junk := [.dct kvs]) frm_0 (nors_of_purs _ (purs_map_str' _)) rfl rfl ?_
      repeat refine go ?_
      rfl
end
/-! ### all_prefixes -/
open XS
def prefs (c : S) : List S := (List.range (c.length + 1)).map fun k => c.take k
def evr (P : List S) : List S := P.flatMap prefs
structure Ps (P : List S) : Prop where
  n : P.length ≤ 9
  c : ∀ c ∈ P, c.length ≤ 4
  a : ∀ c ∈ P, ∀ x ∈ c, x < 128
theorem fm_len : ∀ l : List S, (∀ c ∈ l, c.length ≤ 4) → (l.flatMap prefs).length ≤ 5 * l.length
  | [], _ => by simp
  | c :: r, h => by
    have h1 := fm_len r fun x m => h x (List.mem_cons_of_mem _ m)
    have h2 := h c List.mem_cons_self
    simp only [List.flatMap_cons, List.length_append, prefs, List.length_map, List.length_range, List.length_cons]
    omega
theorem evr_len {P : List S} (h : Ps P) : (evr P).length ≤ 45 := by
  have := fm_len P h.c
  have := h.n
  unfold evr
  omega
def mkP (s : S) : D := .tup [.int (0 - (s.length : Int)), .str s]
instance {l : List S} : PursC (l.map mkP) := pursC_map fun _ => rfl
noncomputable def srtP (l : List S) : List S := l.mergeSort fun x y => dLe (mkP x) (mkP y)
theorem w_srtP {l : List S} {h : Hs} {Q : D → Hs → Prop} (q : Q (.ref h.length) (h ++ [.lst ((srtP l).map mkP)])) : wp (sortedV [.lst (l.map mkP)] h) Q := by
  have e : (l.map mkP).mergeSort dLe = (srtP l).map mkP := (List.map_mergeSort (r := fun x y => dLe (mkP x) (mkP y)) (s := dLe) (f := mkP) (l := l) fun _ _ _ _ => rfl).symm
  have c1 : nors (l.map mkP) = true := nors_of_purs _ (inferInstance : PursC (l.map mkP)).p
  have c2 : dpts (l.map mkP) ≤ 60 := by
    refine Nat.le_trans (dpts_le (n := 1) fun d m => ?_) (by decide)
    obtain ⟨x, _, rfl⟩ := List.mem_map.mp m
    simp [mkP, dpt, dpts]
  have c3 : PySem.W.AllAlike ((l.map mkP).map toPy) := by
    intro d m d' m'
    simp only [List.map_map, List.mem_map, Function.comp] at m m'
    obtain ⟨a, _, rfl⟩ := m
    obtain ⟨b, _, rfl⟩ := m'
    simp [mkP, toPy, toPys, PySem.W.alike, PySem.W.alikeAll]
  have c4 : PySem.W.Sortable ((l.map mkP).map toPy) := by
    refine .inl fun d m => ?_
    simp only [List.map_map, List.mem_map, Function.comp] at m
    obtain ⟨a, _, rfl⟩ := m
    exact ⟨_, _, rfl⟩
  refine wp_eq ?_ q
  unfold sortedV sortedD sortedD.seqL
  simp only [lof]
  rw [if_pos ⟨c1, c2, c3, c4⟩, e]
theorem w_srtS {l : List S} {h : Hs} {Q : D → Hs → Prop} (q : Q (.ref h.length) (h ++ [.lst ((l.mergeSort sLe).map D.str)])) : wp (sortedV [.lst (l.map D.str)] h) Q := by
  refine wp_eq ?_ q
  unfold sortedV sortedD sortedD.seqL
  simp only [lof]
  rw [if_pos ⟨nors_of_purs _ (purs_map_str' l), by rw [dpts_str]; omega, (alike_strs l).1, (alike_strs l).2⟩, sort_strs]
theorem w_lcK {i : Nat} {fg : FG} {fc : FT} {fe : FE} {vs : List Nat} {env : En} {kvs : List (D × D)} {ks : List S} {Q : D → Hs → Prop} (e : env[i]? = some (some (.ref 0))) (hk : kvs.map Prod.fst = ks.map D.str) (hv : nors (kvs.map Prod.snd) = true)
    (w : wp (fLc (fun _ h => .ok ⟨ks.map D.str, []⟩ h) fg fc fe vs (env.map fun _ => none) []) fun d h => ∃ acc, d = .ref 0 ∧ h = [.lst acc] ∧ nors acc = true ∧ Q (.lst acc) [.dct kvs]) : wp (fLcK i fg fc fe vs env [.dct kvs]) fun d h1 => wp (valR [.dct kvs] (.ok d h1)) Q := by
  obtain ⟨d, h, e1, acc, rfl, rfl, hn, q⟩ := w
  have hks : (kvs.all fun p => (keyOf p.1).isSome) = true := by
    rw [List.all_eq_true]
    intro p m
    have : p.1 ∈ ks.map D.str := by rw [← hk]; exact List.mem_map_of_mem m
    obtain ⟨s, _, es⟩ := List.mem_map.mp this
    rw [← es]
    rfl
  have e2 : fLcK i fg fc fe vs env [.dct kvs] = .ok (.ref 1) [.dct kvs, .lst acc] := by
    unfold fLcK
    rw [e]
    simp only []
    rw [if_pos hks, hk, e1]
    simp only []
    rw [if_pos hn]
  have ho : ([Ob.dct kvs] : Hs).all obNor = true := by
    simp only [List.all_cons, List.all_nil, Bool.and_true, obNor, hk, hv]
    exact nors_of_purs _ (purs_map_str' ks)
  refine wp_eq e2 ?_
  exact f_new (fr := fun _ r => r) (b := ⟨0, 0, 0⟩) (b' := ⟨0, 0, 0⟩) (r := [.dct kvs]) frm_0 hn ho rfl q
noncomputable def apf (P : List S) : List S := srtP (fk (evr P))
theorem takeN (c : S) (k : Nat) : cutL c none (some (0 + (k : Int))) = c.take k := by rw [Int.zero_add, cut_to]
theorem all_ev {P : List S} (h : Ps P) : F_all_prefixes [pD P] = .obj (.lst ((apf P).map D.str)) := by
  refine runP_o (o := .lst ((apf P).map D.str)) rfl (by show purs _ = true; exact purs_map_str' _) ?_
  unfold fs_all_prefixes pD
  simp only [List.map_cons, List.map_nil, List.cons_append, List.nil_append, List.length_cons, List.length_nil, Nat.reduceAdd, Nat.reduceSub, List.reduceReplicate, List.append_nil]
  repeat refine go ?_
  have hP := h.n
  have hl := evr_len h
  have hkl : (fk (evr P)).length ≤ (evr P).length := (fk_ok _).2.2
  have rest : ∀ (kvs : List (D × D)), kvs.map Prod.fst = (fk (evr P)).map D.str → nors (kvs.map Prod.snd) = true → wp (fRet (fLc fi_all_prefixes_3 (gT 2 (gConsF (gN 4) (gConsF (gN 5) gNilF))) fYes fe_all_prefixes_4 [4, 5]) [some (.tup (P.map D.str)), some (.ref 0), none, none, none, none, none] [.dct kvs]) fun fl h => ∃ n, fl = .rt (.ref n) ∧ h[n]? = some (.lst ((apf P).map D.str)) := by
    intro kvs hk hv
    repeat refine go ?_
    refine w_lc (r := [.dct kvs]) (b := ⟨0, 0, 0⟩) frm_0 ?_
    unfold fi_all_prefixes_3
    repeat refine go ?_
    refine w_lcK rfl hk hv ?_
    refine w_lc (r := []) (b := ⟨0, 0, 0⟩) frm_0 ?_
    refine ⟨⟨_, []⟩, _, rfl, ⟨0, 0, 0⟩, rfl, S, D.str, fk (evr P), fun done acc => acc = done.map mkP, ?_⟩
    constructor
    · rfl
    · omega
    · rfl
    · exact fun _ _ => good_nil _ _
    · rfl
    · rintro done x rst acc b1 hd rfl hnr
      haveI := NorsC.mk hnr
      simp only [wipeE, List.set_cons_succ, List.set_cons_zero]
      unfold fe_all_prefixes_3
      simp only [List.map_cons, List.map_nil, List.set_cons_succ, List.set_cons_zero]
      repeat refine go ?_
      exact ⟨b1, rfl, rfl, by rw [List.map_append]; rfl⟩
    · rintro acc b1 rfl hnr acc' b' e1 e2
      obtain rfl := D.lst.inj e1
      refine ⟨_, rfl, rfl, hnr, ?_⟩
      repeat refine go ?_
      refine w_srtP ?_
      haveI ho : ObsC [Ob.dct kvs] := ⟨by
        simp only [List.all_cons, List.all_nil, Bool.and_true, obNor, hk, hv]
        exact nors_of_purs _ (purs_map_str' _)⟩
      repeat refine go ?_
      refine ⟨⟨0, 0, 0⟩, rfl, S, mkP, srtP (fk (evr P)), fun done acc => acc = done.map D.str, ?_⟩
      constructor
      · rfl
      · unfold srtP
        rw [List.length_mergeSort]
        omega
      · exact ho.p
      · exact fun _ _ => good_nil _ _
      · rfl
      · rintro done x rst acc b1 hd rfl hnr
        haveI := NorsC.mk hnr
        simp only [wipeE, List.set_cons_succ, List.set_cons_zero]
        unfold mkP fe_all_prefixes_4
        repeat refine go ?_
        exact ⟨b1, rfl, rfl, by rw [List.map_append]; rfl⟩
      · rintro acc b1 rfl hnr acc' b' e1 e2
        obtain rfl := D.lst.inj e1
        exact ⟨1, rfl, rfl⟩
  refine w_dc2 (b := ⟨0, 0, 0⟩) frm_0 ?_
  unfold fi_all_prefixes_1
  repeat refine go ?_
  refine ⟨⟨0, 0, 0⟩, rfl, S, Nat, D.str, P, fun i => .int (0 + (i : Int)), fun c => List.range (c.length + 1), fun done inn kvs => kvs.map Prod.fst = (fk (done.flatMap prefs ++ inn.map fun k => (P.getD done.length []).take k)).map D.str ∧ nors (kvs.map Prod.snd) = true, ?_⟩
  constructor
  · rfl
  · exact fun _ _ => good_nil _ _
  · exact ⟨rfl, rfl⟩
  · rintro done x rst kvs b1 hd hj
    have ex : P.getD done.length [] = x := by rw [hd]; simp [List.getD_eq_getElem?_getD]
    have hx := h.c x (by rw [hd]; simp)
    have hd' := congrArg List.length hd
    rw [List.length_append, List.length_cons] at hd'
    have hm := fm_len done fun c m => h.c c (by rw [hd]; exact List.mem_append_left _ m)
    simp only [wipeE, List.set_cons_succ, List.set_cons_zero]
    repeat refine go ?_
    unfold fi_all_prefixes_2
    repeat refine go ?_
    refine asN_i (n := x.length + 1) (by omega) (by omega) ?_
    refine ⟨⟨b1, rfl⟩, rfl, fun _ _ => good_nil _ _, ?_, ?_⟩
    · rintro inn y rst1 kvs b2 hi ⟨hk, hv⟩
      have hi' := congrArg List.length hi
      rw [List.length_append, List.length_cons, List.length_range] at hi'
      simp only [wipeE, List.set_cons_succ, List.set_cons_zero]
      unfold fe_all_prefixes_1 fe_all_prefixes_2
      repeat refine go ?_
      rw [takeN]
      refine ⟨b2, rfl, rfl, ?_, ?_, putD_nors hv rfl⟩
      · have e := congrArg List.length hk
        rw [List.length_map, List.length_map] at e
        have := (fk_ok (done.flatMap prefs ++ inn.map fun k => (P.getD done.length []).take k)).2.2
        rw [List.length_append, List.length_map] at this
        omega
      · rw [put_keys hk, List.map_append, List.map_cons, List.map_nil, ← List.append_assoc, fk_snoc, ex]
    · rintro kvs ⟨hk, hv⟩
      refine ⟨?_, hv⟩
      rw [hk, ex, List.flatMap_append]
      simp [prefs]
  · rintro kvs b1 ⟨hk, hv⟩
    refine t_new ?_
    refine go ?_
    refine go ?_
    refine rest kvs ?_ hv
    rw [hk]; simp [evr]
/-! ### deepest -/
open XS
def cnt (P : List S) (p : S) : Nat := (P.filter (pre p)).length
theorem und_cnt (P : List S) (p : S) : (und P p).length = cnt P p := by
  unfold und cnt
  rw [List.length_map]
  have : P.filter (pre p) = (P.zipIdx.filter fun x => pre p x.1).map Prod.fst := by
    conv => lhs; rw [← List.zipIdx_map_fst 0 P]
    rw [List.filter_map]
    rfl
  rw [this, List.length_map]
def gd (P : List S) (n : Nat) (l : List S) : List S := l.filter fun p => decide (n ≤ cnt P p)
def lst (l : List S) : List S := l.filter fun one => !(l.any fun its => !(its == one) && pre one its)
theorem canon_pw (l : List S) : (canonL l).Pairwise fun a b => sLe a b = true := List.pairwise_mergeSort sLe_tr sLe_to (dd l)
theorem apf_perm (P : List S) : (apf P).Perm (canonL (evr P)) := by
  rw [← fk_sort]
  exact (List.mergeSort_perm _ _).trans (List.mergeSort_perm _ _).symm
theorem lst_eq (P : List S) (n : Nat) : (lst (gd P n (apf P))).mergeSort sLe = lst (gd P n (canonL (evr P))) := by
  have p1 : (gd P n (apf P)).Perm (gd P n (canonL (evr P))) := (apf_perm P).filter _
  refine sort_one ((List.mergeSort_perm _ _).trans ?_) (List.pairwise_mergeSort sLe_tr sLe_to _) (((canon_pw (evr P)).sublist List.filter_sublist).sublist List.filter_sublist)
  have e : lst (gd P n (apf P)) = (gd P n (apf P)).filter fun one => !((gd P n (canonL (evr P))).any fun its => !(its == one) && pre one its) := by
    unfold lst
    congr 1
    funext one
    congr 1
    rw [Bool.eq_iff_iff, List.any_eq_true, List.any_eq_true]
    exact ⟨fun ⟨x, m, q⟩ => ⟨x, p1.mem_iff.mp m, q⟩, fun ⟨x, m, q⟩ => ⟨x, p1.mem_iff.mpr m, q⟩⟩
  rw [e]
  exact p1.filter _
theorem apf_len {P : List S} (h : Ps P) : (apf P).length ≤ 45 := by
  have h1 := evr_len h
  have h2 : (fk (evr P)).length ≤ (evr P).length := (fk_ok _).2.2
  unfold apf srtP
  rw [List.length_mergeSort]
  omega
theorem deepest_ev {P : List S} (h : Ps P) (n : Nat) : F_deepest [pD P, natD n] = .val (.tup ((lst (gd P n (canonL (evr P)))).map D.str)) := by
  refine runP_w rfl (by rw [pur_tup]; exact purs_map_str' _) ?_
  unfold fs_deepest pD natD
  simp only [List.map_cons, List.map_nil, List.cons_append, List.nil_append, List.length_cons, List.length_nil, Nat.reduceAdd, Nat.reduceSub, List.reduceReplicate, List.append_nil]
  repeat refine go ?_
  have hP := h.n
  have hl := apf_len h
  refine w_vlc (b := ⟨0, 0, 0⟩) frm_0 ?_
  unfold fi_deepest_1
  repeat refine go ?_
  refine ev_obj (all_ev h) ?_
  haveI : NorsC ((apf P).map D.str) := ⟨nors_of_purs _ (purs_map_str' _)⟩
  repeat refine go ?_
  refine ⟨⟨0, 0, 0⟩, rfl, S, D.str, apf P, fun done acc => acc = (gd P n done).map D.str, ?_⟩
  constructor
  · rfl
  · omega
  · rfl
  · exact fun _ _ => good_nil _ _
  · rfl
  · rintro done x rst acc b1 hd rfl hnr
    haveI := NorsC.mk hnr
    simp only [wipeE, List.set_cons_succ, List.set_cons_zero]
    unfold fc_deepest_1 fe_deepest_1
    repeat refine go ?_
    refine ev_val (under_ev (by omega) x) ?_
    repeat refine go ?_
    rw [und_cnt]
    refine cnd_dec (fun c => ?_) (fun c => ?_)
    · repeat refine go ?_
      refine ⟨b1, rfl, rfl, ?_⟩
      have c' : decide (n ≤ cnt P x) = true := by rw [decide_eq_true_eq]; omega
      simp only [gd, List.filter_append, List.filter_cons, c', if_true, List.filter_nil, List.map_append, List.map_cons, List.map_nil]
    · refine ⟨b1, rfl, ?_⟩
      have c' : decide (n ≤ cnt P x) = false := by rw [decide_eq_false_iff_not]; omega
      simp only [gd, List.filter_append, List.filter_cons, c', Bool.false_eq_true, if_false, List.filter_nil, List.append_nil]
  · rintro acc b1 rfl hnr
    haveI := NorsC.mk hnr
    repeat refine go ?_
    have hg : (gd P n (apf P)).length ≤ 45 := Nat.le_trans (List.length_filter_le _ _) hl
    rw [← lst_eq]
    generalize gd P n (apf P) = G at *
    refine w_vlc (b := ⟨0, 0, 0⟩) frm_0 ?_
    unfold fi_deepest_3
    repeat refine go ?_
    refine ⟨⟨0, 0, 0⟩, rfl, S, D.str, G, fun done acc => acc = (done.filter fun one => !(G.any fun its => !(its == one) && pre one its)).map D.str, ?_⟩
    constructor
    · rfl
    · omega
    · rfl
    · exact fun _ _ => good_nil _ _
    · rfl
    · rintro done x rst acc b2 hd rfl hnr2
      haveI := NorsC.mk hnr2
      simp only [wipeE, List.set_cons_succ, List.set_cons_zero]
      unfold fc_deepest_2 fe_deepest_3
      repeat refine go ?_
      refine w_vlc (b := b2) frm_0 ?_
      unfold fi_deepest_2
      repeat refine go ?_
      refine ⟨b2, rfl, S, D.str, G, fun done acc => acc = done.map fun its => D.bl (!(its == x) && pre x its), ?_⟩
      constructor
      · rfl
      · omega
      · simp only [List.nil_append, List.all_cons, List.all_nil, Bool.and_true, obNor, hnr2]
      · exact fun _ _ => good_nil _ _
      · rfl
      · rintro done2 y rst2 acc b3 hd2 rfl hnr3
        haveI := NorsC.mk hnr3
        simp only [wipeE, List.set_cons_succ, List.set_cons_zero]
        unfold fe_deepest_2
        repeat refine go ?_
        refine cnd_bne (fun c => ?_) (fun c => ?_)
        · repeat refine go ?_
          rw [cut_to]
          refine ⟨b3, rfl, rfl, ?_⟩
          rw [List.map_append, List.map_cons, List.map_nil]
          have : (!(y == x)) = true := by simpa using c
          rw [this]
          rfl
        · repeat refine go ?_
          refine ⟨b3, rfl, rfl, ?_⟩
          rw [List.map_append, List.map_cons, List.map_nil]
          have : (!(y == x)) = false := by simpa using c
          rw [this]
          rfl
      · rintro acc b3 rfl hnr3
        haveI := NorsC.mk hnr3
        repeat refine go ?_
        refine w_any ?_
        repeat refine go ?_
        cases hb : (G.any fun its => !(its == x) && pre x its) with
        | true => 
          refine cnd_if rfl ⟨b3, rfl, ?_⟩
          simp only [List.filter_append, List.filter_cons, hb, Bool.not_true, Bool.false_eq_true, if_false, List.filter_nil, List.append_nil]
        | false =>
          refine cnd_it rfl ?_
          repeat refine go ?_
          refine ⟨b3, rfl, rfl, ?_⟩
          simp only [List.filter_append, List.filter_cons, hb, Bool.not_false, if_true, List.filter_nil, List.map_append, List.map_cons, List.map_nil]
    · rintro acc b2 rfl hnr2
      haveI := NorsC.mk hnr2
      repeat refine go ?_
      rfl
/-! ### drawn posts -/
theorem ref__law_bag : ∀ ns : List Int, ns.length ≤ 63 → ∃ h n m, fs__law_bag (([D.scr ns].map some) ++ List.replicate (N__law_bag.length - 1) none) [] = .ok (.rt (.ref n)) h ∧ h[n]? = some (bagO ⟨0, 1234567891, 0⟩ m) ∧ h[m]? = some (.lst ((ns.map fun i => if i < 0 then -i else i).map D.int)) := bag_gen
theorem take_ev (many : Int) (hm : 1 ≤ many) (hm2 : many < 1073741824) (cs : List Int) (b : Bn) (hc : cs.length ≤ 63) : ∃ v b', F__law_take [.int many] cs b = .val (.int v) b' ∧ 0 ≤ v ∧ v < many := take_gen many hm hm2 cs b hc
theorem alike_ev (x : D) (hn : x.nor = true) (hs : dsz x ≤ 16777216) : F__law_alike [x, x] = .val (.bl true) := alike_gen x hn hs
section
variable {cs : List Int} (hc : cs.length ≤ 63) (b : Bn)
include hc
theorem take_sp {many : Int} (h1 : 1 ≤ many) (h2 : many < 1073741824) : ∃ d b', F__law_take [.int many] cs b = .val d b' ∧ ∃ v : Nat, d = .int v ∧ (v : Int) < many := by
  obtain ⟨v, b', e, v0, v1⟩ := take_ev many h1 h2 cs b hc
  obtain ⟨k, rfl⟩ := Int.eq_ofNat_of_zero_le v0
  exact ⟨_, b', e, k, rfl, v1⟩
theorem some_sp {ds : List D} (hp : purs ds = true) (h1 : ds ≠ []) (h2 : ds.length < 1073741824) : ∃ d b', F__law_some [.lst ds] cs b = .val d b' ∧ d ∈ ds := some_gen _ take_ev ds hp h1 h2 cs b hc
def Dg (n : Nat) (s : S) : Prop := s.length ≤ n ∧ ∀ x ∈ s, x < 128
omit hc in
theorem dg_sum {n : Nat} : ∀ l : List S, (∀ s ∈ l, Dg n s) → lenSum l ≤ l.length * n ∧ ∀ x ∈ joinL [] l, x < 128
  | [], _ => ⟨by simp [lenSum], fun x m => by cases m⟩
  | s :: r, h => by
    obtain ⟨h1, h2⟩ := dg_sum r fun t m => h t (List.mem_cons_of_mem _ m)
    obtain ⟨h3, h4⟩ := h s List.mem_cons_self
    refine ⟨by unfold lenSum at *; simp only [List.map_cons, List.sum_cons, List.length_cons, Nat.succ_mul]; omega, fun x m => ?_⟩
    have e : joinL [] (s :: r) = s ++ joinL [] r := by cases r <;> simp [joinL]
    rw [e] at m
    rcases List.mem_append.mp m with m | m
    · exact h4 x m
    · exact h2 x m
theorem post_sp : ∃ d b', F__law_post [.int 9] cs b = .val d b' ∧ ∃ P : List S, d = pD P ∧ Ps P := by
  refine runB_w rfl ?_
  unfold fs__law_post
  simp only [List.map_cons, List.map_nil, List.cons_append, List.nil_append, List.length_cons, List.length_nil, Nat.reduceAdd, Nat.reduceSub, List.reduceReplicate, List.append_nil]
  repeat refine go ?_
  refine w_vlc (frm_BG cs) ?_
  unfold fi__law_post_1
  repeat refine go ?_
  refine asN_i (n := 3) rfl (by omega) ?_
  refine ⟨_, rfl, Nat, fun i => .int (0 + (i : Int)), List.range 3, fun done acc => ∃ l : List S, acc = l.map D.str ∧ l.length = done.length ∧ ∀ s ∈ l, Dg 1 s, ?_⟩
  constructor
  · rfl
  · simp
  · rfl
  · exact fun _ _ => good_nil _ _
  · exact ⟨[], rfl, rfl, fun s m => by cases m⟩
  · rintro done i rest acc b1 hd ⟨l, rfl, hl, hp⟩ hnr
    haveI := NorsC.mk hnr
    simp only [wipeE, List.set_cons_succ, List.set_cons_zero]
    unfold fe__law_post_1
    repeat refine go ?_
    refine evB_val (some_sp hc _ (ds := [.str [49], .str [50]]) rfl (by simp) (by simp)) fun d b3 hd3 => ?_
    have hd3' : ∃ w : S, d = .str w ∧ Dg 1 w := by
      simp only [List.mem_cons, List.not_mem_nil, or_false] at hd3
      rcases hd3 with rfl | rfl <;> exact ⟨_, rfl, by decide, by decide⟩
    obtain ⟨w, rfl, hw⟩ := hd3'
    repeat refine go ?_
    refine ⟨b3, rfl, rfl, l ++ [w], by simp, by simp [hl], fun p m => ?_⟩
    rcases List.mem_append.mp m with m | m
    · exact hp p m
    · rw [List.mem_singleton.mp m]; exact hw
  · rintro acc b1 ⟨l, rfl, hl, hp⟩ hnr
    haveI := NorsC.mk hnr
    rw [List.length_range] at hl
    obtain ⟨h1, h2⟩ := dg_sum l hp
    repeat refine go ?_
    refine ⟨by simp; omega, ?_⟩
    generalize joinL [] l = t at *
    repeat refine go ?_
    refine w_for ?_
    unfold fi__law_post_2
    repeat refine go ?_
    refine evB_val (take_sp hc _ (by omega) (by omega)) fun d b2 hd1 => ?_
    obtain ⟨v, rfl, hv⟩ := hd1
    repeat refine go ?_
    refine asN_i (n := 1 + v) (by omega) (by omega) ?_
    refine ⟨Nat, fun i => .int (0 + (i : Int)), List.range (1 + v), fun done e h => ∃ o3 o5 o6 b1, ∃ l : List S, e = [some (.ref 0), some (.int 9), some (.str t), o3, some (.ref 2), o5, o6] ∧ h = BG cs b1 [.lst (l.map D.str)] ∧ l.length = done.length ∧ ∀ s ∈ l, Dg 4 s, ?_⟩
    constructor
    · rfl
    · exact ⟨_, _, _, _, [], rfl, rfl, rfl, fun p m => by cases m⟩
    · exact fun _ _ _ _ => good_nil _ _
    · rintro done i rest e h hd ⟨o3, o5, o6, b3, l, rfl, rfl, hl, hp⟩
      have q1 := congrArg List.length hd
      simp only [List.length_range, List.length_append, List.length_cons] at q1
      unfold fb__law_post_1
      repeat refine go ?_
      refine evB_val (take_sp hc _ (by omega) (by omega)) fun d b4 hd1 => ?_
      obtain ⟨cut, rfl, hcut⟩ := hd1
      repeat refine go ?_
      rw [cut_to]
      refine evB_val (some_sp hc _ (ds := [.str [49], .str [50], .str [49, 50], .str [50, 49]]) rfl (by simp) (by simp)) fun d b5 hd3 => ?_
      have hd3' : ∃ w : S, d = .str w ∧ Dg 2 w := by
        simp only [List.mem_cons, List.not_mem_nil, or_false] at hd3
        rcases hd3 with rfl | rfl | rfl | rfl <;> exact ⟨_, rfl, by decide, by decide⟩
      obtain ⟨w, rfl, hw⟩ := hd3'
      repeat refine go ?_
      have hcl : (t.take cut).length ≤ 3 := by rw [List.length_take]; omega
      have hwl := hw.1
      refine ⟨by omega, ?_⟩
      repeat refine go ?_
      refine evB_val (take_sp hc _ (by omega) (by omega)) fun d b6 hd1 => ?_
      obtain ⟨k, rfl, hk⟩ := hd1
      repeat refine go ?_
      rw [show (1 : Int) + (k : Int) = ((1 + k : Nat) : Int) by omega, cut_to]
      refine ⟨by rw [List.length_map]; omega, ?_⟩
      repeat refine go ?_
      refine ⟨_, _, _, b6, l ++ [(t.take cut ++ w).take (1 + k)], rfl, by simp, by simp [hl], fun p m => ?_⟩
      rcases List.mem_append.mp m with m | m
      · exact hp p m
      · rw [List.mem_singleton.mp m]
        refine ⟨by rw [List.length_take]; omega, fun x mx => ?_⟩
        rcases List.mem_append.mp (List.mem_of_mem_take mx) with z | z
        · exact h2 x (List.mem_of_mem_take z)
        · exact hw.2 x z
    · rintro e h ⟨o3, o5, o6, b3, l, rfl, rfl, hl, hp⟩
      rw [List.length_range] at hl
      repeat refine go ?_
      refine ⟨_, _, _, rfl, rfl, pD_pur l, l, rfl, by omega, fun c m => (hp c m).1, fun c m => (hp c m).2⟩
end
/-! ### the law's own words on a prefix -/
open XS
abbrev eL (ns : List Int) (o2 o3 o4 o5 o6 o7 o8 o9 o10 o11 o12 o13 o14 o15 o16 o17 o18 : Option D) : En := [some (.scr ns), some (.ref 1), o2, o3, o4, o5, o6, o7, o8, o9, o10, o11, o12, o13, o14, o15, o16, o17, o18]
theorem pD_rp {P : List S} (h : Ps P) : rpOk (pD P) := by
  have hP := h.n
  refine rp_ok (nor_of_pur _ (pD_pur P)) rfl (by simp only [pD, dpt, dpts_str]; omega) ?_ ?_
  · have : ∀ l : List S, (∀ c ∈ l, ∀ x ∈ c, x < 128) → ascs (l.map D.str) = true := fun l => by
      induction l with
      | nil => intro _; rfl
      | cons c r ih =>
        intro h
        simp only [List.map_cons, ascs, asc, Bool.and_eq_true, List.all_eq_true, decide_eq_true_eq]
        exact ⟨fun x m => h c List.mem_cons_self x m, ih fun d m => h d (List.mem_cons_of_mem _ m)⟩
    exact this P h.a
  · have : ∀ l : List S, (∀ c ∈ l, c.length ≤ 4) → rzs (l.map D.str) ≤ 20 * l.length := fun l => by
      induction l with
      | nil => intro _; simp [rzs]
      | cons c r ih =>
        intro h
        have h1 := ih fun d m => h d (List.mem_cons_of_mem _ m)
        have h2 := h c List.mem_cons_self
        simp only [List.map_cons, rzs, rz, List.length_cons]
        omega
    have := this P h.c
    simp only [pD, rz]
    omega
theorem canon_len (l : List S) : (canonL l).length ≤ l.length := by
  rw [← fk_sort, List.length_mergeSort]
  exact (fk_ok l).2.2
theorem dszs_n (l : List Nat) : dszs (l.map natD) = l.length := by
  induction l with
  | nil => rfl
  | cons x r ih => simp only [List.map_cons, dszs, natD, dsz, ih, List.length_cons]; omega
section
variable {ns cs : List Int} (hc : cs.length ≤ 63) {b : Bn} {r : Hs} [hr : ObsC r] {P : List S} (hP : Ps P) (p : S)
include hc hP
theorem again_w {o2 o5 o6 o7 o10 o12 o13 o14 o15 o16 o17 o18 : Option D} {Q : Fl → Hs → Prop}
    (q : ∀ o12 o13, Q (.nx (eL ns o2 (some (pD P)) (some (.str (rpL (pD P)))) o5 o6 o7 (some (.str p)) (some (.lst ((und P p).map natD))) o10 (some (.lst ((canonL (som P p)).map D.str))) o12 o13 o14 o15 o16 o17 o18)) (BH cs b r)) :
    wp (fFor fi_law_5 (gN 12) fb_law_2 (eL ns o2 (some (pD P)) (some (.str (rpL (pD P)))) o5 o6 o7 (some (.str p)) (some (.lst ((und P p).map natD))) o10 (some (.lst ((canonL (som P p)).map D.str))) o12 o13 o14 o15 o16 o17 o18) (BH cs b r)) Q := by
  have hn := hP.n
  refine w_for ?_
  unfold fi_law_5
  repeat refine go ?_
  refine asN_i (n := 2) rfl (by omega) ?_
  refine ⟨Nat, fun i => .int (0 + (i : Int)), List.range 2, fun done e h => ∃ o12 o13, e = eL ns o2 (some (pD P)) (some (.str (rpL (pD P)))) o5 o6 o7 (some (.str p)) (some (.lst ((und P p).map natD))) o10 (some (.lst ((canonL (som P p)).map D.str))) o12 o13 o14 o15 o16 o17 o18 ∧ h = BH cs b r, ?_⟩
  constructor
  · rfl
  · exact ⟨_, _, rfl, rfl⟩
  · exact fun _ _ _ _ => good_nil _ _
  · rintro done i rest e h hd ⟨o12, o13, rfl, rfl⟩
    haveI n1 : NorsC ((und P p).map natD) := ⟨nors_of_purs _ (inferInstance : PursC ((und P p).map natD)).p⟩
    haveI n2 : NorsC ((canonL (som P p)).map D.str) := ⟨nors_of_purs _ (purs_map_str' _)⟩
    unfold fb_law_2
    repeat refine go ?_
    refine ev_val (under_ev (by omega) p) ?_
    repeat refine go ?_
    refine ev_val (branches_ev (by omega) p) ?_
    repeat refine go ?_
    have l1 := und_len P p
    have l2 := som_len P p
    have l3 := canon_len (som P p)
    refine ev_val (alike_ev _ ?_ ?_) ?_
    · simp only [nor_lst, nors_cons, nor_tup, n1.p, n2.p]; rfl
    · simp only [dsz, dszs, dszs_n, dszs_strs]; omega
    repeat refine go ?_
    refine ⟨pD_rp hP, ?_⟩
    repeat refine go ?_
    refine cnd_bne (fun c => absurd rfl c) (fun _ => ?_)
    repeat refine go ?_
    exact ⟨_, _, rfl, rfl⟩
  · rintro e h ⟨o12, o13, rfl, rfl⟩
    repeat refine go ?_
    exact q _ _
theorem prefix_w {o2 o5 o6 o7 o9 o10 o11 o12 o13 o14 o15 o16 o17 o18 : Option D} {Q : Fl → Hs → Prop}
    (q : ∀ b o9 o11 o12 o13, Q (.nx (eL ns o2 (some (pD P)) (some (.str (rpL (pD P)))) o5 o6 o7 (some (.str p)) o9 o10 o11 o12 o13 o14 o15 o16 o17 o18)) (BH cs b r)) :
    wp (fb_law_3 (eL ns o2 (some (pD P)) (some (.str (rpL (pD P)))) o5 o6 o7 (some (.str p)) o9 o10 o11 o12 o13 o14 o15 o16 o17 o18) (BH cs b r)) Q := by
  have hn := hP.n
  unfold fb_law_3
  repeat refine go ?_
  refine w_vlc (b := b) (frm_BH cs) ?_
  unfold fi_law_3 
  unfold eL pD
  repeat refine go ?_
  refine ⟨b, rfl, S × Nat, fun x => .tup [natD x.2, .str x.1], P.zipIdx, fun done acc => acc = ((done.filter fun x => pre p x.1).map Prod.snd).map natD, ?_⟩
  constructor
  · exact enum_f D.str P 0
  · rw [List.length_zipIdx]; omega
  · exact hr.p
  · exact fun _ _ => good_nil _ _
  · rfl
  · rintro done x rest acc b1 hd rfl hnr
    haveI := NorsC.mk hnr
    simp only [wipeE, List.set_cons_succ, List.set_cons_zero]
    unfold fc_law_1 fe_law_2
    repeat refine go ?_
    rw [cut_to]
    change cnd (pre p x.1) _ _
    cases hc : pre p x.1 with
    | true =>
      refine cnd_it rfl ?_
      repeat refine go ?_
      exact ⟨b1, rfl, rfl, by simp [List.filter_append, hc]⟩
    | false => exact cnd_if rfl ⟨b1, rfl, by simp [List.filter_append, hc]⟩
  · rintro acc b1 rfl hnr
    haveI := NorsC.mk hnr
    repeat refine go ?_
    change wp (fVal (fLc fi_law_4 (gN 10) fc_law_2 fe_law_3 [10]) (eL ns o2 (some (.tup (P.map D.str))) (some (.str (rpL (pD P)))) o5 o6 o7 (some (.str p)) (some (.lst ((und P p).map natD))) o10 o11 o12 o13 o14 o15 o16 o17 o18) (BH cs b1 r)) _
    have hu := und_len P p
    haveI : NorsC ((und P p).map natD) := ⟨hnr⟩
    refine w_vlc (b := b1) (frm_BH cs) ?_
    unfold fi_law_4
    repeat refine go ?_
    refine ⟨b1, rfl, Nat, natD, und P p, fun done acc => acc = ((done.filter fun i => decide (p.length < (P.getD i []).length)).map fun i => (P.getD i []).take (p.length + 1)).map D.str, ?_⟩
    constructor
    · rfl
    · omega
    · exact hr.p
    · exact fun _ _ => good_nil _ _
    · rfl
    · rintro done i rest acc b2 hd rfl hnr2
      haveI := NorsC.mk hnr2
      have hi := und_lt (P := P) (p := p) (i := i) (by rw [hd]; simp)
      simp only [wipeE, List.set_cons_succ, List.set_cons_zero]
      unfold fc_law_2 fe_law_3
      rw [show natD i = .int (i : Int) from rfl]
      repeat refine go ?_
      refine asAt_i (ixP P hi) ?_
      repeat refine go ?_
      refine cnd_dec (fun c => ?_) (fun c => ?_)
      · repeat refine go ?_
        refine asAt_i (ixP P hi) ?_
        repeat refine go ?_
        rw [show (p.length : Int) + 1 = ((p.length + 1 : Nat) : Int) by omega, cut_to]
        refine ⟨b2, rfl, rfl, ?_⟩
        have c' : decide (p.length < (P.getD i []).length) = true := by rw [decide_eq_true_eq]; omega
        simp only [List.filter_append, List.filter_cons, c', if_true, List.filter_nil, List.map_append, List.map_cons, List.map_nil]
      · refine ⟨b2, rfl, ?_⟩
        have c' : decide (p.length < (P.getD i []).length) = false := by rw [decide_eq_false_iff_not]; omega
        simp only [List.filter_append, List.filter_cons, c', Bool.false_eq_true, if_false, List.filter_nil, List.append_nil]
    · rintro acc b2 rfl hnr2
      haveI : NorsC ((som P p).map D.str) := ⟨hnr2⟩
      have hs := som_len P p
      change wp (ssD (.lst ((som P p).map D.str)) (BH cs b2 r)) _
      repeat refine go ?_
      refine ⟨by omega, ?_⟩
      haveI : NorsC ((canonL (som P p)).map D.str) := ⟨nors_of_purs _ (purs_map_str' _)⟩
      repeat refine go ?_
      exact again_w hc hP p fun o12 o13 => q _ _ _ _ _
end
/-! ### the law's own words on the deepest -/
open XS
def E0 (P : List S) : List S := canonL (evr P)
theorem fl_empty {α : Type} (f : α → Bool) (l : List α) : (l.filter f).isEmpty = !(l.any f) := by
  induction l with
  | nil => rfl
  | cons x r ih => cases h : f x <;> simp [List.filter_cons, h, ih]
section
variable {ns cs : List Int} (hc : cs.length ≤ 63) {b : Bn} {r : Hs} [hr : ObsC r] {P : List S} (hP : Ps P) {m : Nat} [hE : Lk r m (.lst ((E0 P).map D.str))] (n : Nat)
include hc hP
theorem least_w {o2 o4 o6 o7 o8 o9 o10 o11 o12 o13 o15 o16 o17 o18 : Option D} {Q : Fl → Hs → Prop}
    (q : ∀ b o15 o17, Q (.nx (eL ns o2 (some (pD P)) o4 (some (.ref (m + 2))) o6 o7 o8 o9 o10 o11 o12 o13 (some (natD n)) o15 o16 o17 o18)) (BH cs b r)) :
    wp (fb_law_4 (eL ns o2 (some (pD P)) o4 (some (.ref (m + 2))) o6 o7 o8 o9 o10 o11 o12 o13 (some (natD n)) o15 o16 o17 o18) (BH cs b r)) Q := by
  have hn := hP.n
  have hl : (E0 P).length ≤ 45 := Nat.le_trans (canon_len _) (evr_len hP)
  unfold fb_law_4
  repeat refine go ?_
  refine w_vlc (b := b) (frm_BH cs) ?_
  unfold fi_law_8
  unfold eL pD natD
  repeat refine go ?_
  refine ⟨b, rfl, S, D.str, E0 P, fun done acc => acc = (gd P n done).map D.str, ?_⟩
  constructor
  · rfl
  · omega
  · exact hr.p
  · intro b2 acc p mp
    rw [List.mem_singleton.mp mp]
    exact (inferInstance : Lk (BH cs b2 (r ++ [.lst acc])) (m + 2) (.lst ((E0 P).map D.str))).e
  · rfl
  · rintro done x rest acc b1 hd rfl hnr
    haveI := NorsC.mk hnr
    simp only [wipeE, List.set_cons_succ, List.set_cons_zero]
    unfold fc_law_4 fe_law_5
    repeat refine go ?_
    refine w_vlc (b := b1) (frm_BH cs) ?_
    unfold fi_law_7
    repeat refine go ?_
    refine ⟨b1, rfl, S, D.str, P, fun done acc => acc = (done.filter (pre x)).map fun _ => D.int 1, ?_⟩
    constructor
    · rfl
    · omega
    · simp only [List.all_append, hr.p, List.all_cons, List.all_nil, Bool.and_true, obNor, hnr]
    · exact fun _ _ => good_nil _ _
    · rfl
    · rintro done2 y rest2 acc b3 hd2 rfl hnr3
      haveI := NorsC.mk hnr3
      simp only [wipeE, List.set_cons_succ, List.set_cons_zero]
      unfold fc_law_3 fe_law_4
      repeat refine go ?_
      rw [cut_to]
      change cnd (pre x y) _ _
      cases hc : pre x y with
      | true =>
        refine cnd_it rfl ?_
        repeat refine go ?_
        exact ⟨b3, rfl, rfl, by simp [List.filter_append, hc]⟩
      | false => exact cnd_if rfl ⟨b3, rfl, by simp [List.filter_append, hc]⟩
    · rintro acc b3 rfl hnr3
      haveI := NorsC.mk hnr3
      repeat refine go ?_
      refine cnd_dec (fun c => ?_) (fun c => ?_)
      · repeat refine go ?_
        refine ⟨b3, rfl, rfl, ?_⟩
        have c' : decide (n ≤ cnt P x) = true := by rw [decide_eq_true_eq]; unfold cnt; omega
        simp only [gd, List.filter_append, List.filter_cons, c', if_true, List.filter_nil, List.map_append, List.map_cons, List.map_nil]
      · refine ⟨b3, rfl, ?_⟩
        have c' : decide (n ≤ cnt P x) = false := by rw [decide_eq_false_iff_not]; unfold cnt; omega
        simp only [gd, List.filter_append, List.filter_cons, c', Bool.false_eq_true, if_false, List.filter_nil, List.append_nil]
  · rintro acc b1 rfl hnr
    haveI := NorsC.mk hnr
    repeat refine go ?_
    have hg : (gd P n (E0 P)).length ≤ 45 := Nat.le_trans (List.length_filter_le _ _) hl
    have hd := deepest_ev hP n
    change F_deepest [pD P, natD n] = .val (.tup ((lst (gd P n (E0 P))).map D.str)) at hd
    generalize gd P n (E0 P) = G at *
    refine w_vlc (b := b1) (frm_BH cs) ?_
    unfold fi_law_10
    repeat refine go ?_
    refine ⟨b1, rfl, S, D.str, G, fun done acc => acc = (done.filter fun one => !(G.any fun its => !(its == one) && pre one its)).map D.str, ?_⟩
    constructor
    · rfl
    · omega
    · exact hr.p
    · exact fun _ _ => good_nil _ _
    · rfl
    · rintro done x rest acc b2 hd rfl hnr2
      haveI := NorsC.mk hnr2
      simp only [wipeE, List.set_cons_succ, List.set_cons_zero]
      unfold fc_law_6 fe_law_7
      repeat refine go ?_
      refine w_vlc (b := b2) (frm_BH cs) ?_
      unfold fi_law_9
      repeat refine go ?_
      refine ⟨b2, rfl, S, D.str, G, fun done acc => acc = (done.filter fun its => !(its == x) && pre x its).map fun _ => D.int 1, ?_⟩
      constructor
      · rfl
      · omega
      · simp only [List.all_append, hr.p, List.all_cons, List.all_nil, Bool.and_true, obNor, hnr2]
      · exact fun _ _ => good_nil _ _
      · rfl
      · rintro done2 y rest2 acc b3 hd2 rfl hnr3
        haveI := NorsC.mk hnr3
        simp only [wipeE, List.set_cons_succ, List.set_cons_zero]
        unfold fc_law_5 fe_law_6
        repeat refine go ?_
        refine cnd_bne (fun c => ?_) (fun c => ?_)
        · repeat refine go ?_
          rw [cut_to]
          change cnd (pre x y) _ _
          have c' : (!(y == x)) = true := by simpa using c
          cases hc : pre x y with
          | true =>
            refine cnd_it rfl ?_
            repeat refine go ?_
            exact ⟨b3, rfl, rfl, by rw [List.filter_append, List.filter_cons, c', hc]; simp⟩
          | false => exact cnd_if rfl ⟨b3, rfl, by rw [List.filter_append, List.filter_cons, c', hc]; simp⟩
        · have c' : (!(y == x)) = false := by simpa using c
          repeat refine go ?_
          exact ⟨b3, rfl, by rw [List.filter_append, List.filter_cons, c']; simp⟩
      · rintro acc b3 rfl hnr3
        haveI := NorsC.mk hnr3
        repeat refine go ?_
        refine ⟨⟨?_, by simp [dpt, dpts]⟩, ?_⟩
        · simp only [dpt]
          rw [show dpts ((G.filter fun its => !(its == x) && pre x its).map fun _ => D.int 1) = 0 from dpts_zero fun d m => by
            obtain ⟨l, _, rfl⟩ := List.mem_map.mp m; rfl]
          omega
        repeat refine go ?_
        rw [show deq (.lst ((G.filter fun its => !(its == x) && pre x its).map fun _ => D.int 1)) (.lst []) = !(G.any fun its => !(its == x) && pre x its) by simp only [deq, deqs_nil, List.isEmpty_map, fl_empty]]
        cases hb : (G.any fun its => !(its == x) && pre x its) with
        | true =>
          refine cnd_if rfl ⟨b3, rfl, ?_⟩
          simp only [List.filter_append, List.filter_cons, hb, Bool.not_true, Bool.false_eq_true, if_false, List.filter_nil, List.append_nil]
        | false =>
          refine cnd_it rfl ?_
          repeat refine go ?_
          refine ⟨b3, rfl, rfl, ?_⟩
          simp only [List.filter_append, List.filter_cons, hb, Bool.not_false, if_true, List.filter_nil, List.map_append, List.map_cons, List.map_nil]
    · rintro acc b2 rfl hnr2
      haveI := NorsC.mk hnr2
      repeat refine go ?_
      refine ev_val hd ?_
      repeat refine go ?_
      have hz : (lst G).length ≤ G.length := List.length_filter_le _ _
      refine ev_val (alike_ev (.tup ((lst G).map D.str)) ?_ ?_) ?_
      · rw [nor_tup]; exact hnr2
      · simp only [dsz, dszs_strs]; omega
      repeat refine go ?_
      exact q _ _ _
end
/-! ### a turn, the law -/
open XS
section
variable {ns cs : List Int} (hc : cs.length ≤ 63) {b : Bn} {r : Hs} [hr : ObsC r]
include hc
theorem turn_w (o2 o3 o4 o5 o6 o7 o8 o9 o10 o11 o12 o13 o14 o15 o16 o17 o18 : Option D) {Q : Fl → Hs → Prop}
    (q : ∀ o2 o3 o4 o5 o6 o7 o8 o9 o10 o11 o12 o13 o14 o15 o16 o17 o18 b' r', ObsC r' → Q (.nx (eL ns o2 o3 o4 o5 o6 o7 o8 o9 o10 o11 o12 o13 o14 o15 o16 o17 o18)) (BH cs b' r')) :
    wp (fb_law_5 (eL ns o2 o3 o4 o5 o6 o7 o8 o9 o10 o11 o12 o13 o14 o15 o16 o17 o18) (BH cs b r)) Q := by
  unfold fb_law_5
  repeat refine go ?_
  refine evB_val (post_sp hc _) fun d b1 hd => ?_
  obtain ⟨P, rfl, hP⟩ := hd
  have hn := hP.n
  have hev := evr_len hP
  have hcl := canon_len (evr P)
  repeat refine go ?_
  refine ⟨pD_rp hP, ?_⟩
  repeat refine go ?_
  change wp (fFor fi_law_2 (gN 6) fb_law_1 (eL ns o2 (some (.tup (P.map D.str))) (some (.str (rpL (pD P)))) (some (.ref (r.length + 2))) o6 o7 o8 o9 o10 o11 o12 o13 o14 o15 o16 o17 o18) (BH cs b1 (r ++ [.lst []]))) _
  refine w_for ?_
  unfold fi_law_2
  repeat refine go ?_
  refine ⟨S, D.str, P, fun done e h => ∃ o6 o7 b2, e = eL ns o2 (some (.tup (P.map D.str))) (some (.str (rpL (pD P)))) (some (.ref (r.length + 2))) o6 o7 o8 o9 o10 o11 o12 o13 o14 o15 o16 o17 o18 ∧ h = BH cs b2 (r ++ [.lst ((done.flatMap prefs).map D.str)]), ?_⟩
  constructor
  · rfl
  · exact ⟨_, _, _, rfl, rfl⟩
  · exact fun _ _ _ _ => good_nil _ _
  · rintro done x rest e h hd ⟨o6, o7, b2, rfl, rfl⟩
    have hx := hP.c x (by rw [hd]; simp)
    have hm := fm_len done fun c m => hP.c c (by rw [hd]; exact List.mem_append_left _ m)
    have hd' := congrArg List.length hd
    rw [List.length_append, List.length_cons] at hd'
    haveI n0 : ObsC (r ++ [.lst ((done.flatMap prefs).map D.str)]) := ⟨by simp only [List.all_append, hr.p, List.all_cons, List.all_nil, Bool.and_true, obNor, nors_of_purs _ (purs_map_str' _)]⟩
    unfold fb_law_1
    repeat refine go ?_
    refine w_vlc (b := b2) (frm_BH cs) ?_
    unfold fi_law_1
    repeat refine go ?_
    refine asN_i (n := x.length + 1) (by omega) (by omega) ?_
    refine ⟨b2, rfl, Nat, fun i => .int (0 + (i : Int)), List.range (x.length + 1), fun done acc => acc = (done.map fun k => x.take k).map D.str, ?_⟩
    constructor
    · rfl
    · rw [List.length_range]; omega
    · exact n0.p
    · exact fun _ _ => good_nil _ _
    · rfl
    · rintro done2 y rest2 acc b3 hd2 rfl hnr3
      haveI := NorsC.mk hnr3
      simp only [wipeE, List.set_cons_succ, List.set_cons_zero]
      unfold fe_law_1
      repeat refine go ?_
      rw [takeN]
      repeat refine go ?_
      exact ⟨b3, rfl, rfl, by simp⟩
    · rintro acc b3 rfl hnr3
      haveI := NorsC.mk hnr3
      repeat refine go ?_
      have hpl : (((List.range (x.length + 1)).map fun k => x.take k).map D.str).length = x.length + 1 := by simp
      refine ⟨by rw [hpl, List.length_map]; omega, ?_⟩
      repeat refine go ?_
      refine ⟨_, _, b3, rfl, ?_⟩
      rw [List.flatMap_append, List.map_append]
      simp [prefs]
  · rintro e h ⟨o6, o7, b2, rfl, rfl⟩
    haveI n0 : ObsC (r ++ [.lst ((P.flatMap prefs).map D.str)]) := ⟨by simp only [List.all_append, hr.p, List.all_cons, List.all_nil, Bool.and_true, obNor, nors_of_purs _ (purs_map_str' _)]⟩
    change (P.flatMap prefs).length ≤ 45 at hev
    repeat refine go ?_
    refine ⟨by omega, ?_⟩
    haveI n1 : NorsC ((canonL (P.flatMap prefs)).map D.str) := ⟨nors_of_purs _ (purs_map_str' _)⟩
    repeat refine go ?_
    have tl : ∀ (R : Hs) (m : Nat) (hE : Lk R m (.lst ((E0 P).map D.str))) (hR : ObsC R) (b2 : Bn), wp (fFor fi_law_6 (gN 8) fb_law_3 (eL ns o2 (some (pD P)) (some (.str (rpL (pD P)))) (some (.ref (m + 2))) o6 o7 o8 o9 o10 o11 o12 o13 o14 o15 o16 o17 o18) (BH cs b2 R)) (seqQ (fFor fi_law_11 (gN 14) fb_law_4) Q) := by
      intro R m hE hR b2
      have hl : (E0 P).length ≤ 45 := Nat.le_trans hcl hev
      refine w_for ?_
      unfold fi_law_6
      repeat refine go ?_
      refine ⟨by simp; omega, ?_⟩
      haveI n2 : NorsC ((E0 P).map D.str ++ [D.str [57], D.str [51, 51], D.str [49, 50, 51, 52, 53, 54]]) := ⟨by rw [nors_append, nors_of_purs _ (purs_map_str' _)]; rfl⟩
      repeat refine go ?_
      refine ⟨S, D.str, E0 P ++ [[57], [51, 51], [49, 50, 51, 52, 53, 54]], fun done e h => ∃ o8 o9 o11 o12 o13 b2, e = eL ns o2 (some (pD P)) (some (.str (rpL (pD P)))) (some (.ref (m + 2))) o6 o7 o8 o9 o10 o11 o12 o13 o14 o15 o16 o17 o18 ∧ h = BH cs b2 R, ?_⟩
      constructor
      · simp
      · exact ⟨_, _, _, _, _, _, rfl, rfl⟩
      · exact fun _ _ _ _ => good_nil _ _
      · rintro done x rest e h hd ⟨o8, o9, o11, o12, o13, b3, rfl, rfl⟩
        repeat refine go ?_
        exact prefix_w hc hP x fun b o9 o11 o12 o13 => ⟨_, _, _, _, _, _, rfl, rfl⟩
      · rintro e h ⟨o8, o9, o11, o12, o13, b3, rfl, rfl⟩
        repeat refine go ?_
        refine w_for ?_
        unfold fi_law_11
        repeat refine go ?_
        refine ⟨Nat, natD, [1, 2, 3, 9], fun done e h => ∃ o14 o15 o17 b2, e = eL ns o2 (some (pD P)) (some (.str (rpL (pD P)))) (some (.ref (m + 2))) o6 o7 o8 o9 o10 o11 o12 o13 o14 o15 o16 o17 o18 ∧ h = BH cs b2 R, ?_⟩
        constructor
        · rfl
        · exact ⟨_, _, _, _, rfl, rfl⟩
        · exact fun _ _ _ _ => good_nil _ _
        · rintro done x rest e h hd ⟨o14, o15, o17, b4, rfl, rfl⟩
          repeat refine go ?_
          exact least_w hc hP x fun b o15 o17 => ⟨_, _, _, _, rfl, rfl⟩
        · rintro e h ⟨o14, o15, o17, b4, rfl, rfl⟩
          exact q _ _ _ _ _ _ _ _ _ _ _ _ _ _ _ _ _ _ _ hR
    refine tl _ _ (inferInstanceAs (Lk (r ++ [Ob.lst ((P.flatMap prefs).map D.str)] ++ [Ob.lst ((canonL (P.flatMap prefs)).map D.str)]) (r ++ [Ob.lst ((P.flatMap prefs).map D.str)]).length (.lst ((canonL (P.flatMap prefs)).map D.str)))) ⟨by rw [List.all_append, n0.p]; simp only [List.all_cons, List.all_nil, Bool.and_true, obNor, n1.p]⟩ b2
end
theorem ref_law : ∀ ns : List Int, ns.length ≤ 63 → ∃ h, fs_law (([D.scr ns].map some) ++ List.replicate (N_law.length - 1) none) [] = .ok (.rt (.bl true)) h := by
  intro ns hl
  have main : wp (fs_law (([D.scr ns].map some) ++ List.replicate (N_law.length - 1) none) []) fun fl _ => fl = .rt (.bl true) := by
    unfold fs_law
    simp only [List.map_cons, List.map_nil, List.cons_append, List.nil_append, List.length_cons, List.length_nil, Nat.reduceAdd, Nat.reduceSub, List.reduceReplicate, List.append_nil]
    repeat refine go ?_
    refine newB_w ?_
    repeat refine go ?_
    refine ⟨ns, rfl, hl, ?_⟩
    repeat refine go ?_
    refine w_for ?_
    unfold fi_law_12
    repeat refine go ?_
    refine asN_i (n := 8) rfl (by omega) ?_
    have hc : (ns.map fun i => if i < 0 then -i else i).length ≤ 63 := by rw [List.length_map]; exact hl
    generalize hcs : (ns.map fun i => if i < 0 then -i else i) = cs at *
    refine ⟨Nat, fun i => .int (0 + (i : Int)), List.range 8, fun _ e h => ∃ o2 o3 o4 o5 o6 o7 o8 o9 o10 o11 o12 o13 o14 o15 o16 o17 o18 b' r', e = eL ns o2 o3 o4 o5 o6 o7 o8 o9 o10 o11 o12 o13 o14 o15 o16 o17 o18 ∧ h = BH cs b' r' ∧ ObsC r', ?_⟩
    constructor
    · rfl
    · exact ⟨_, _, _, _, _, _, _, _, _, _, _, _, _, _, _, _, _, _, _, rfl, rfl, ⟨rfl⟩⟩
    · exact fun _ _ _ _ => good_nil _ _
    · rintro done x rest e h hd ⟨o2, o3, o4, o5, o6, o7, o8, o9, o10, o11, o12, o13, o14, o15, o16, o17, o18, b', r', rfl, rfl, hr⟩
      repeat refine go ?_
      exact turn_w hc _ o3 o4 o5 o6 o7 o8 o9 o10 o11 o12 o13 o14 o15 o16 o17 o18 fun _ _ _ _ _ _ _ _ _ _ _ _ _ _ _ _ _ _ _ hr => ⟨_, _, _, _, _, _, _, _, _, _, _, _, _, _, _, _, _, _, _, rfl, rfl, hr⟩
    · rintro e h ⟨o2, o3, o4, o5, o6, o7, o8, o9, o10, o11, o12, o13, o14, o15, o16, o17, o18, b', r', rfl, rfl, hr⟩
      repeat refine go ?_
      rfl
  obtain ⟨fl, h, e, rfl⟩ := main
  exact ⟨h, e⟩
section
variable {P : Program} {w : World} {g : G} {mg : Str → Option Value} {base : Heap} {a_under a_branches a_all_prefixes a_deepest a__law_take a__law_some a__law_bag a__law_alike a__law_post a_law : Addr} {d_under d_branches d_all_prefixes d_deepest d__law_take d__law_some d__law_bag d__law_alike d__law_post d_law : FuncData}
theorem ok_under (T : Txt P w g.K g.er mg base a_under a_branches a_all_prefixes a_deepest a__law_take a__law_some a__law_bag a__law_alike a__law_post a_law d_under d_branches d_all_prefixes d_deepest d__law_take d__law_some d__law_bag d__law_alike d__law_post d_law) : FnOk P w g.K mg base CX0 1 a_under d_under ["post", "prefix"] (SpP g F_under) := by
  refine def_ok (fs := fs_under) T.F_under sc_under (fun cdv A outer s H E hr => ?_) ref_under
  refine ⟨_, (pss_one (ps_ret (pe_callTy (kTupOf g.K) (by rfl) T.z_tuple (by decide +kernel) (pa_cons (pe_lc (own := [("letter", 2), ("code", 3)]) (g := (gTup _ 2 (gCons (gName 2) (gCons (gName 3) gNil)))) rfl sc_under.nd (kEnum g.K rfl T.z_enumerate (pa_cons (pv 0) pa_nil)) (blkOk_by (own := [("letter", 2), ("code", 3)]) (N := N_under) (sc := defScope s_under) (by decide +kernel)) (fun _ _ _ _ _ => (kTup g.K rfl (pgs_cons (pg_name (i := 2) sc_under.nd rfl (by first | exact Or.inl rfl | exact Or.inr rfl)) (pgs_cons (pg_name (i := 3) sc_under.nd rfl (by first | exact Or.inl rfl | exact Or.inr rfl)) pgs_nil)))) (fun _ _ _ _ _ => (pts_one (pt_cmpR (kEq g.K hr.units) (pe_slice (kSl g.K) (pv 3) po_none (po_some (pe_callB (kLen g.K) (by rfl) T.z_len PySem.boot_len (pa_cons (pv 1) pa_nil)))) (pv 1) (nomark _)))) (fun _ _ _ _ _ => (pv 2))) pa_nil)))), ?_⟩
  exact (sim_ret (sim_cb sim_tuple (sim_cons (sim_val (sim_lc (vs := [2, 3]) (sim_enum (sim_cons (sim_var 0) sim_nil)) (sim_gtup (sim_gcons (sim_gname 2) (sim_gcons (sim_gname 3) sim_gnil))) (only_tup (only_cons (only_name (by decide)) (only_cons (only_name (by decide)) only_nil (mono_name _)) (mono_name _))) (sim_tmpB (sim_test (sim_op sim_eq (sim_sl sim_slice (sim_var 3) sim_no (sim_so (sim_cb sim_len (sim_cons (sim_var 1) sim_nil)))) (sim_var 1)))) (sim_var 2))) sim_nil)))
theorem ok_all_prefixes (T : Txt P w g.K g.er mg base a_under a_branches a_all_prefixes a_deepest a__law_take a__law_some a__law_bag a__law_alike a__law_post a_law d_under d_branches d_all_prefixes d_deepest d__law_take d__law_some d__law_bag d__law_alike d__law_post d_law) : FnOk P w g.K mg base CX0 1 a_all_prefixes d_all_prefixes ["post"] (SpP g F_all_prefixes) := by
  refine def_ok (fs := fs_all_prefixes) T.F_all_prefixes sc_all_prefixes (fun cdv A outer s H E hr => ?_) ref_all_prefixes
  refine ⟨_, (pss_cons (DC2.ps_setDc2 (i := 1) (hc := rfl) (hN := sc_all_prefixes.nd) (hy := rfl) (hyl := rfl) (hsw := DC2.swD_true rfl rfl rfl (by decide +kernel)) (own := [("code", 2), ("many", 3)]) (vs1 := [3]) (g := (gName 2)) (g1 := (gName 3)) (tt := tYes) (tt1 := tYes) (kIt g.K (pv 0)) (blkOk_by (own := [("code", 2), ("many", 3)]) (N := N_all_prefixes) (sc := defScope s_all_prefixes) (by decide +kernel)) (by decide) (fun _ _ _ _ _ => (pg_name (i := 2) sc_all_prefixes.nd rfl (by first | exact Or.inl rfl | exact Or.inr rfl))) (fun _ _ _ _ _ => pts_nil) (fun _ _ _ _ _ => (pi_range1 (by rfl) T.z_range (pa_cons (pe_op (kAdd g.K) (pe_callB (kLen g.K) (by rfl) T.z_len PySem.boot_len (pa_cons (pv 2) pa_nil)) pe_int) pa_nil))) (fun _ _ _ _ _ => (pg_name (i := 3) sc_all_prefixes.nd rfl (by first | exact Or.inl rfl | exact Or.inr rfl))) (fun _ _ _ _ _ => pts_nil) (fun _ _ _ _ _ => (pe_slice (kSl g.K) (pv 2) po_none (po_some (pv 3)))) (fun _ _ _ _ _ => pe_bl))
      (pss_one (ps_ret (pe_lc (own := [("less", 4), ("prefix", 5)]) (g := (gTup _ 2 (gCons (gName 4) (gCons (gName 5) gNil)))) (tt := tYes) rfl sc_all_prefixes.nd (kIt g.K (pe_callB (kSortedV g.K hr.units) (by rfl) T.z_sorted (by decide +kernel) (pa_cons (pe_lock (pe_lc (own := [("one", 6)]) (g := (gName 6)) (tt := tYes) rfl sc_all_prefixes.nd (pi_keys (pv 1)) (blkOk_by (own := [("one", 6)]) (N := N_all_prefixes) (sc := defScope s_all_prefixes) (by decide +kernel)) (fun _ _ _ _ _ => (pg_name (i := 6) sc_all_prefixes.nd rfl (by first | exact Or.inl rfl | exact Or.inr rfl))) (fun _ _ _ _ _ => pts_nil) (fun _ _ _ _ _ => (pe_tup (pa_cons (pe_op op_sub pe_int (pe_callB (kLen g.K) (by rfl) T.z_len PySem.boot_len (pa_cons (pv 6) pa_nil))) (pa_cons (pv 6) pa_nil)))))) pa_nil))) (blkOk_by (own := [("less", 4), ("prefix", 5)]) (N := N_all_prefixes) (sc := defScope s_all_prefixes) (by decide +kernel)) (fun _ _ _ _ _ => (kTup g.K rfl (pgs_cons (pg_name (i := 4) sc_all_prefixes.nd rfl (by first | exact Or.inl rfl | exact Or.inr rfl)) (pgs_cons (pg_name (i := 5) sc_all_prefixes.nd rfl (by first | exact Or.inl rfl | exact Or.inr rfl)) pgs_nil)))) (fun _ _ _ _ _ => pts_nil) (fun _ _ _ _ _ => (pv 5)))))), ?_⟩
  exact (sim_seq (sim_asg (sim_tmp (sim_dc2 (vs := [2, 3]) (vs1 := [3]) (sim_iter (sim_var 0)) (sim_gname 2) (only_name (by decide)) sim_yes (sim_rng1 (sim_cons (sim_op sim_add (sim_cb sim_len (sim_cons (sim_var 2) sim_nil)) (sim_int 1)) sim_nil)) (sim_gname 3) (only_name (by decide)) sim_yes (sim_tmp (sim_sl sim_slice (sim_var 2) sim_no (sim_so (sim_var 3)))) (sim_bl true))) (sim_gname 1))
      (sim_ret (sim_lc (vs := [4, 5]) (sim_iter (sim_val (sim_cb sim_sortedV (sim_cons (sim_val (sim_lcK (i := 1) (vs := [6]) (sim_gname 6) (only_name (by decide)) sim_yes (sim_tup (sim_cons (sim_op sim_sub (sim_int 0) (sim_cb sim_len (sim_cons (sim_var 6) sim_nil))) (sim_cons (sim_var 6) sim_nil))))) sim_nil)))) (sim_gtup (sim_gcons (sim_gname 4) (sim_gcons (sim_gname 5) sim_gnil))) (only_tup (only_cons (only_name (by decide)) (only_cons (only_name (by decide)) only_nil (mono_name _)) (mono_name _))) sim_yes (sim_var 5))))
theorem ok__law_take (T : Txt P w g.K g.er mg base a_under a_branches a_all_prefixes a_deepest a__law_take a__law_some a__law_bag a__law_alike a__law_post a_law d_under d_branches d_all_prefixes d_deepest d__law_take d__law_some d__law_bag d__law_alike d__law_post d_law) : FnOk P w g.K mg base CX0 1 a__law_take d__law_take ["bag", "many"] (SpB g F__law_take) := by
  refine defB_ok (fs := fs__law_take) T.F__law_take sc__law_take (fun cdv A outer s H E hr => ?_) ref__law_take
  refine ⟨_, (pss_cons (ps_if (pt_cmpR (kEq g.K hr.units) (pe_ix (kIx g.K) (pv 0) pe_int (fun _ _ => rfl)) pe_int (nomark _)) (pss_cons (ps_set (i := 2) sc__law_take.nd rfl (Or.inl rfl) (pe_ix (kIx g.K) (pe_op (kAdd g.K) (pe_slice (kSl g.K) (pe_ix (kIx g.K) (pv 0) pe_int (fun _ _ => rfl)) (po_some (pe_ix (kIx g.K) (pv 0) pe_int (fun _ _ => rfl))) po_none) (pe_lst (pa_cons pe_int pa_nil))) pe_int (fun _ _ => rfl)))
      (pss_cons (ps_augS (pv 0) pe_int (get_seq g.K) pe_int iop_uAdd set_list)
      (pss_cons (ps_if (pt_cmpR op_uGe (pv 2) (pe_op op_pow pe_int pe_int) (nomark _)) (pss_one (ps_asg (pv 2) (pg_sub (pv 0) pe_int set_list))) pss_nil)
      (pss_cons (ps_set (i := 3) sc__law_take.nd rfl (Or.inl rfl) (pe_op (kAdd g.K) (pe_op (kAdd g.K) (pe_op (kMul g.K) (pe_ix (kIx g.K) (pv 0) pe_int (fun _ _ => rfl)) pe_int) (pe_op op_modN (pe_callTy call_int1 (by rfl) T.z_int (by decide +kernel) (pa_cons (pv 2) pa_nil)) pe_int)) (pe_op (kMul g.K) pe_int (pe_ix (kIx g.K) (pv 0) pe_int (fun _ _ => rfl)))))
      (pss_one (ps_asg (pe_op op_modN (pe_callTy call_int1 (by rfl) T.z_int (by decide +kernel) (pa_cons (pv 3) pa_nil)) pe_int) (pg_sub (pv 0) pe_int set_list))))))) pss_nil)
      (pss_cons (ps_if (pt_cmpR op_uGt (pe_ix (kIx g.K) (pv 0) pe_int (fun _ _ => rfl)) pe_int (nomark _)) (pss_cons (ps_set (i := 4) sc__law_take.nd rfl (Or.inl rfl) (pe_op op_modN (pe_callTy call_int1 (by rfl) T.z_int (by decide +kernel) (pa_cons (pe_ix (kIx g.K) (pv 0) pe_int (fun _ _ => rfl)) pa_nil)) (pv 1)))
      (pss_cons (ps_asg (pe_op op_fdivN (pe_callTy call_int1 (by rfl) T.z_int (by decide +kernel) (pa_cons (pe_ix (kIx g.K) (pv 0) pe_int (fun _ _ => rfl)) pa_nil)) (pv 1)) (pg_sub (pv 0) pe_int set_list))
      (pss_one (ps_ret (pv 4))))) pss_nil)
      (pss_cons (ps_set (i := 5) sc__law_take.nd rfl (Or.inl rfl) (pe_op op_modN (pe_callTy call_int1 (by rfl) T.z_int (by decide +kernel) (pa_cons (pe_op (kMul g.K) (pe_op (kAdd g.K) (pe_ix (kIx g.K) (pv 0) pe_int (fun _ _ => rfl)) pe_int) pe_int) pa_nil)) pe_int))
      (pss_cons (ps_set (i := 6) sc__law_take.nd rfl (Or.inl rfl) (pe_op op_modN (pe_callTy call_int1 (by rfl) T.z_int (by decide +kernel) (pa_cons (pe_op (kMul g.K) (pe_op op_modN (pe_callTy call_int1 (by rfl) T.z_int (by decide +kernel) (pa_cons (pe_op (kMul g.K) (pv 5) (pv 5)) pa_nil)) pe_int) pe_int) pa_nil)) pe_int))
      (pss_one (ps_ret (pe_op op_modN (pe_callTy call_int1 (by rfl) T.z_int (by decide +kernel) (pa_cons (pe_op op_fdivN (pv 6) pe_int) pa_nil)) (pv 1)))))))), ?_⟩
  exact (sim_seq (sim_ifS (sim_test (sim_op sim_eq (sim_op sim_ix (sim_var 0) (sim_int 0)) (sim_int 0))) (sim_seq (sim_asg (sim_tmp (sim_op sim_ix (sim_op sim_add (sim_sl sim_slice (sim_op sim_ix (sim_var 0) (sim_int 3)) (sim_so (sim_op sim_ix (sim_var 0) (sim_int 2))) sim_no) (sim_lst (sim_cons (sim_int 0) sim_nil))) (sim_int 0))) (sim_gname 2))
      (sim_seq (sim_augL sim_iadd (sim_var 0) (sim_int 2) (sim_int 1))
      (sim_seq (sim_ifS (sim_test (sim_op sim_ge (sim_var 2) (sim_op sim_pow (sim_int 10) (sim_int 18)))) (sim_asg (sim_var 2) (sim_gsub (sim_var 0) (sim_int 0))) sim_next)
      (sim_seq (sim_asg (sim_op sim_add (sim_op sim_add (sim_op sim_mul (sim_op sim_ix (sim_var 0) (sim_int 1)) (sim_int 48271)) (sim_op sim_mod (sim_cb sim_int1 (sim_cons (sim_var 2) sim_nil)) (sim_int 2147483647))) (sim_op sim_mul (sim_int 7919) (sim_op sim_ix (sim_var 0) (sim_int 2)))) (sim_gname 3))
      (sim_asg (sim_op sim_mod (sim_cb sim_int1 (sim_cons (sim_var 3) sim_nil)) (sim_int 2147483647)) (sim_gsub (sim_var 0) (sim_int 1))))))) sim_next)
      (sim_seq (sim_ifS (sim_test (sim_op sim_gt (sim_op sim_ix (sim_var 0) (sim_int 0)) (sim_int 0))) (sim_seq (sim_asg (sim_op sim_mod (sim_cb sim_int1 (sim_cons (sim_op sim_ix (sim_var 0) (sim_int 0)) sim_nil)) (sim_var 1)) (sim_gname 4))
      (sim_seq (sim_asg (sim_op sim_fdiv (sim_cb sim_int1 (sim_cons (sim_op sim_ix (sim_var 0) (sim_int 0)) sim_nil)) (sim_var 1)) (sim_gsub (sim_var 0) (sim_int 0)))
      (sim_ret (sim_var 4)))) sim_next)
      (sim_seq (sim_asg (sim_op sim_mod (sim_cb sim_int1 (sim_cons (sim_op sim_mul (sim_op sim_add (sim_op sim_ix (sim_var 0) (sim_int 1)) (sim_int 1)) (sim_int 39373)) sim_nil)) (sim_int 1000000007)) (sim_gname 5))
      (sim_seq (sim_asg (sim_op sim_mod (sim_cb sim_int1 (sim_cons (sim_op sim_mul (sim_op sim_mod (sim_cb sim_int1 (sim_cons (sim_op sim_mul (sim_var 5) (sim_var 5)) sim_nil)) (sim_int 998244353)) (sim_int 30011)) sim_nil)) (sim_int 998244353)) (sim_gname 6))
      (sim_ret (sim_op sim_mod (sim_cb sim_int1 (sim_cons (sim_op sim_fdiv (sim_var 6) (sim_int 7)) sim_nil)) (sim_var 1)))))))
theorem ok__law_bag (T : Txt P w g.K g.er mg base a_under a_branches a_all_prefixes a_deepest a__law_take a__law_some a__law_bag a__law_alike a__law_post a_law d_under d_branches d_all_prefixes d_deepest d__law_take d__law_some d__law_bag d__law_alike d__law_post d_law) : FnOk P w g.K mg base CX0 1 a__law_bag d__law_bag ["script"] (SpN g) := by
  refine defN_ok (fs := fs__law_bag) T.F__law_bag sc__law_bag (fun cdv A outer s H E hr => ?_) ref__law_bag
  refine ⟨_, (pss_one (ps_ret (pe_lst (pa_cons pe_int (pa_cons pe_int (pa_cons pe_int (pa_cons (pe_lc (own := [("cell", 1)]) (g := (gName 1)) (tt := tYes) rfl sc__law_bag.nd (kIt g.K (pe_slice (kSl g.K) (pv 0) po_none (po_some pe_int))) (blkOk_by (own := [("cell", 1)]) (N := N__law_bag) (sc := defScope s__law_bag) (by decide +kernel)) (fun _ _ _ _ _ => (pg_name (i := 1) sc__law_bag.nd rfl (by first | exact Or.inl rfl | exact Or.inr rfl))) (fun _ _ _ _ _ => pts_nil) (fun _ _ _ _ _ => (pe_callB call_abs (by rfl) T.z_abs (by decide +kernel) (pa_cons (pv 1) pa_nil)))) pa_nil))))))), ?_⟩
  exact (sim_ret (sim_lst (sim_cons (sim_int 0) (sim_cons (sim_int 1234567891) (sim_cons (sim_int 0) (sim_cons (sim_lc (vs := [1]) (sim_iter (sim_sl sim_slice (sim_var 0) sim_no (sim_so (sim_int 63)))) (sim_gname 1) (only_name (by decide)) sim_yes (sim_cb sim_abs (sim_cons (sim_var 1) sim_nil))) sim_nil))))))
theorem ok__law_alike (T : Txt P w g.K g.er mg base a_under a_branches a_all_prefixes a_deepest a__law_take a__law_some a__law_bag a__law_alike a__law_post a_law d_under d_branches d_all_prefixes d_deepest d__law_take d__law_some d__law_bag d__law_alike d__law_post d_law) : FnOk P w g.K mg base CX0 1 a__law_alike d__law_alike ["found", "due"] (SpP g F__law_alike) := by
  refine def_ok (fs := fs__law_alike) T.F__law_alike sc__law_alike (fun cdv A outer s H E hr => ?_) ref__law_alike
  refine ⟨_, (pss_cons (ps_par (i := 2) (j := 3) (by rfl) sc__law_alike.nd rfl rfl (by decide) rfl rfl (pa_cons (pe_lst (pa_cons (pe_tup (pa_cons (pv 0) (pa_cons (pv 1) pa_nil))) pa_nil)) (pa_cons pe_int pa_nil)) (by rfl))
      (pss_cons (ps_while PassesOwn.never (pt_cmpR op_uLt (pv 3) (pe_callB (kLen g.K) (by rfl) T.z_len PySem.boot_len (pa_cons (pv 2) pa_nil)) (nomark _)) (pss_cons (ps_asg (pe_ix (kIx g.K) (pv 2) (pv 3) (fun _ _ => rfl)) (kTup g.K rfl (pgs_cons (pg_name (i := 4) sc__law_alike.nd rfl (Or.inl rfl)) (pgs_cons (pg_name (i := 5) sc__law_alike.nd rfl (Or.inl rfl)) pgs_nil))))
      (pss_cons (ps_aug (i := 3) sc__law_alike.nd rfl (Or.inl rfl) pe_int iop_uAdd)
      (pss_cons (ps_if (PW.pt (pw_or (pt_cmpR (kNe g.K hr.units) (pe_callB (kIsi g.K) (by rfl) T.z_isinstance boot_isinstance (pa_cons (pv 4) (pa_cons (pe_bltn (v := .ty "bool") (by rfl) T.z_bool boot_bool rfl) pa_nil))) (pe_callB (kIsi g.K) (by rfl) T.z_isinstance boot_isinstance (pa_cons (pv 5) (pa_cons (pe_bltn (v := .ty "bool") (by rfl) T.z_bool boot_bool rfl) pa_nil))) (nomark _)) (pw_or1 (pt_cmpR (kNe g.K hr.units) (pe_callB (kIsi g.K) (by rfl) T.z_isinstance boot_isinstance (pa_cons (pv 4) (pa_cons (pe_bltn (v := .ty "str") (by rfl) T.z_str boot_str rfl) pa_nil))) (pe_callB (kIsi g.K) (by rfl) T.z_isinstance boot_isinstance (pa_cons (pv 5) (pa_cons (pe_bltn (v := .ty "str") (by rfl) T.z_str boot_str rfl) pa_nil))) (nomark _))))) (pss_one (ps_ret pe_bl)) pss_nil)
      (pss_cons (ps_if (pt_cmpR (kNe g.K hr.units) (pe_callB (kIsiT g.K) (by rfl) T.z_isinstance boot_isinstance (pa_cons (pv 4) (pa_cons (pe_tup (pa_cons (pe_bltn (v := .ty "tuple") (by rfl) T.z_tuple boot_tuple rfl) (pa_cons (pe_bltn (v := .ty "list") (by rfl) T.z_list boot_list rfl) pa_nil))) pa_nil))) (pe_callB (kIsiT g.K) (by rfl) T.z_isinstance boot_isinstance (pa_cons (pv 5) (pa_cons (pe_tup (pa_cons (pe_bltn (v := .ty "tuple") (by rfl) T.z_tuple boot_tuple rfl) (pa_cons (pe_bltn (v := .ty "list") (by rfl) T.z_list boot_list rfl) pa_nil))) pa_nil))) (nomark _)) (pss_one (ps_ret pe_bl)) pss_nil)
      (pss_one (ps_if (kTru g.K (pe_callB (kIsiT g.K) (by rfl) T.z_isinstance boot_isinstance (pa_cons (pv 4) (pa_cons (pe_tup (pa_cons (pe_bltn (v := .ty "tuple") (by rfl) T.z_tuple boot_tuple rfl) (pa_cons (pe_bltn (v := .ty "list") (by rfl) T.z_list boot_list rfl) pa_nil))) pa_nil))) (by intro _; rfl)) (pss_cons (ps_if (PW.pt (pw_or (pt_cmpR (kNe g.K hr.units) (pe_callB (kIsi g.K) (by rfl) T.z_isinstance boot_isinstance (pa_cons (pv 4) (pa_cons (pe_bltn (v := .ty "tuple") (by rfl) T.z_tuple boot_tuple rfl) pa_nil))) (pe_callB (kIsi g.K) (by rfl) T.z_isinstance boot_isinstance (pa_cons (pv 5) (pa_cons (pe_bltn (v := .ty "tuple") (by rfl) T.z_tuple boot_tuple rfl) pa_nil))) (nomark _)) (pw_or1 (pt_cmpR (kNe g.K hr.units) (pe_callB (kLen g.K) (by rfl) T.z_len PySem.boot_len (pa_cons (pv 4) pa_nil)) (pe_callB (kLen g.K) (by rfl) T.z_len PySem.boot_len (pa_cons (pv 5) pa_nil)) (nomark _))))) (pss_one (ps_ret pe_bl)) pss_nil)
      (pss_one (ps_expr (pe_bm PySem.F.plainAttrs_list PySem.F.slot_list_extend PySem.F.type_list_extend mt_extend (pv 2) (pa_cons (kZip g.K rfl T.z_list rfl T.z_zip (pa_cons (pv 4) (pa_cons (pv 5) pa_nil)) rfl) pa_nil))))) (pss_one (ps_if (pt_cmpR (kNe g.K hr.units) (pv 4) (pv 5) (nomark _)) (pss_one (ps_ret pe_bl)) pss_nil)))))))))
      (pss_one (ps_ret pe_bl)))), ?_⟩
  exact (sim_seq (sim_par (sim_cons (sim_lst (sim_cons (sim_tup (sim_cons (sim_var 0) (sim_cons (sim_var 1) sim_nil))) sim_nil)) (sim_cons (sim_int 0) sim_nil)))
      (sim_seq (sim_while (sim_test (sim_op sim_lt (sim_var 3) (sim_cb sim_len (sim_cons (sim_var 2) sim_nil)))) (sim_seq (sim_asg (sim_op sim_ix (sim_var 2) (sim_var 3)) (sim_gtup (sim_gcons (sim_gname 4) (sim_gcons (sim_gname 5) sim_gnil))))
      (sim_seq (sim_aug sim_iadd (sim_int 1))
      (sim_seq (sim_ifS (sim_or (sim_test (sim_op sim_ne (sim_isi1 (by decide) (sim_var 4)) (sim_isi1 (by decide) (sim_var 5)))) (sim_test (sim_op sim_ne (sim_isi1 (by decide) (sim_var 4)) (sim_isi1 (by decide) (sim_var 5))))) (sim_ret (sim_bl false)) sim_next)
      (sim_seq (sim_ifS (sim_test (sim_op sim_ne (sim_isi2 (by decide) (by decide) (sim_var 4)) (sim_isi2 (by decide) (by decide) (sim_var 5)))) (sim_ret (sim_bl false)) sim_next)
      (sim_ifS (sim_tru (sim_isi2 (by decide) (by decide) (sim_var 4))) (sim_seq (sim_ifS (sim_or (sim_test (sim_op sim_ne (sim_isi1 (by decide) (sim_var 4)) (sim_isi1 (by decide) (sim_var 5)))) (sim_test (sim_op sim_ne (sim_cb sim_len (sim_cons (sim_var 4) sim_nil)) (sim_cb sim_len (sim_cons (sim_var 5) sim_nil))))) (sim_ret (sim_bl false)) sim_next)
      (sim_drop (sim_bm sim_extend (sim_var 2) (sim_cons (sim_tmp (sim_lz (sim_cons (sim_var 4) (sim_cons (sim_var 5) sim_nil)))) sim_nil)))) (sim_ifS (sim_test (sim_op sim_ne (sim_var 4) (sim_var 5))) (sim_ret (sim_bl false)) sim_next)))))))
      (sim_ret (sim_bl true))))
theorem ok_branches (T : Txt P w g.K g.er mg base a_under a_branches a_all_prefixes a_deepest a__law_take a__law_some a__law_bag a__law_alike a__law_post a_law d_under d_branches d_all_prefixes d_deepest d__law_take d__law_some d__law_bag d__law_alike d__law_post d_law) : FnOk P w g.K mg base CX0 2 a_branches d_branches ["post", "prefix"] (SpP g F_branches) := by
  refine def_ok (fs := fs_branches) T.F_branches sc_branches (fun cdv A outer s H E hr => ?_) ref_branches
  refine ⟨_, (pss_cons (ps_setLc (i := 2) (hc := rfl) (hN := sc_branches.nd) (hy := rfl) (hyl := rfl) (hsw := sw_true rfl rfl rfl (by decide +kernel)) (own := [("letter", 3)]) (g := (gName 3)) (kIt g.K (pe_call (ok_under T) hr rfl T.g_under T.F_under.kp T.b_under .nil pass0 (pa_cons (pv 0) (pa_cons (pv 1) pa_nil)))) (blkOk_by (own := [("letter", 3)]) (N := N_branches) (sc := defScope s_branches) (by decide +kernel)) (fun _ _ _ _ _ => (pg_name (i := 3) sc_branches.nd rfl (by first | exact Or.inl rfl | exact Or.inr rfl))) (fun _ _ _ _ _ => (pts_one (pt_cmpR op_uGt (pe_callB (kLen g.K) (by rfl) T.z_len PySem.boot_len (pa_cons (pe_ix (kIx g.K) (pv 0) (pv 3) (fun _ _ => rfl)) pa_nil)) (pe_callB (kLen g.K) (by rfl) T.z_len PySem.boot_len (pa_cons (pv 1) pa_nil)) (nomark _)))) (fun _ _ _ _ _ => (pe_slice (kSl g.K) (pe_ix (kIx g.K) (pv 0) (pv 3) (fun _ _ => rfl)) po_none (po_some (pe_op (kAdd g.K) (pe_callB (kLen g.K) (by rfl) T.z_len PySem.boot_len (pa_cons (pv 1) pa_nil)) pe_int)))))
      (pss_one (ps_ret (pe_callTy (kTupOf g.K) (by rfl) T.z_tuple (by decide +kernel) (pa_cons (pe_callB (kSortedA g.K hr.units rfl) (by rfl) T.z_sorted (by decide +kernel) (pa_cons (pe_dc (own := [("one", 4)]) (g := (gName 4)) (tt := tYes) rfl sc_branches.nd (kIt g.K (pv 2)) (blkOk_by (own := [("one", 4)]) (N := N_branches) (sc := defScope s_branches) (by decide +kernel)) (fun _ _ _ _ _ => (pg_name (i := 4) sc_branches.nd rfl (by first | exact Or.inl rfl | exact Or.inr rfl))) (fun _ _ _ _ _ => pts_nil) (fun _ _ _ _ _ => (pv 4)) (fun _ _ _ _ _ => pe_bl)) pa_nil)) pa_nil))))), ?_⟩
  exact (sim_seq (sim_asg (sim_val (sim_lc (vs := [3]) (sim_iter (sim_call (sim_cons (sim_var 0) (sim_cons (sim_var 1) sim_nil)))) (sim_gname 3) (only_name (by decide)) (sim_test (sim_op sim_gt (sim_cb sim_len (sim_cons (sim_op sim_ix (sim_var 0) (sim_var 3)) sim_nil)) (sim_cb sim_len (sim_cons (sim_var 1) sim_nil)))) (sim_tmp (sim_sl sim_slice (sim_op sim_ix (sim_var 0) (sim_var 3)) sim_no (sim_so (sim_op sim_add (sim_cb sim_len (sim_cons (sim_var 1) sim_nil)) (sim_int 1))))))) (sim_gname 2))
      (sim_ret (sim_cb sim_tuple (sim_cons (sim_val (sim_cb sim_sortedA (sim_cons (sim_dc (vs := [4]) (sim_iter (sim_var 2)) (sim_gname 4) (only_name (by decide)) sim_yes (sim_var 4) (sim_bl true)) sim_nil))) sim_nil))))
theorem ok_deepest (T : Txt P w g.K g.er mg base a_under a_branches a_all_prefixes a_deepest a__law_take a__law_some a__law_bag a__law_alike a__law_post a_law d_under d_branches d_all_prefixes d_deepest d__law_take d__law_some d__law_bag d__law_alike d__law_post d_law) : FnOk P w g.K mg base CX0 2 a_deepest d_deepest ["post", "least"] (SpP g F_deepest) := by
  refine def_ok (fs := fs_deepest) T.F_deepest sc_deepest (fun cdv A outer s H E hr => ?_) ref_deepest
  refine ⟨_, (pss_cons (ps_set (i := 2) sc_deepest.nd rfl (Or.inr rfl) (pe_lc (own := [("prefix", 3)]) (g := (gName 3)) rfl sc_deepest.nd (kIt g.K (pe_call (ok_all_prefixes T) hr rfl T.g_all_prefixes T.F_all_prefixes.kp T.b_all_prefixes .nil pass0 (pa_cons (pv 0) pa_nil))) (blkOk_by (own := [("prefix", 3)]) (N := N_deepest) (sc := defScope s_deepest) (by decide +kernel)) (fun _ _ _ _ _ => (pg_name (i := 3) sc_deepest.nd rfl (by first | exact Or.inl rfl | exact Or.inr rfl))) (fun _ _ _ _ _ => (pts_one (pt_cmpR op_uGe (pe_callB (kLen g.K) (by rfl) T.z_len PySem.boot_len (pa_cons (pe_call (ok_under T) hr rfl T.g_under T.F_under.kp T.b_under .nil pass0 (pa_cons (pv 0) (pa_cons (pv 3) pa_nil))) pa_nil)) (pv 1) (nomark _)))) (fun _ _ _ _ _ => (pv 3))))
      (pss_one (ps_ret (pe_callTy (kTupOf g.K) (by rfl) T.z_tuple (by decide +kernel) (pa_cons (pe_callB (kSortedV g.K hr.units) (by rfl) T.z_sorted (by decide +kernel) (pa_cons (pe_lc (own := [("one", 4)]) (g := (gName 4)) rfl sc_deepest.nd (kIt g.K (pv 2)) (blkOk_by (own := [("one", 4)]) (N := N_deepest) (sc := defScope s_deepest) (by decide +kernel)) (fun _ _ _ _ _ => (pg_name (i := 4) sc_deepest.nd rfl (by first | exact Or.inl rfl | exact Or.inr rfl))) (fun _ _ _ _ _ => (pts_one (pt_not (kTru g.K (pe_callB (kAny g.K rfl) (by rfl) T.z_any (by decide +kernel) (pa_cons (pe_lc (own := [("its", 5)]) (g := (gName 5)) (tt := tYes) rfl sc_deepest.nd (kIt g.K (pv 2)) (blkOk_by (own := [("its", 5)]) (by kernel_rfl)) (fun _ _ _ _ _ => (pg_name (i := 5) sc_deepest.nd rfl (by first | exact Or.inl rfl | exact Or.inr rfl))) (fun _ _ _ _ _ => pts_nil) (fun _ _ _ _ _ => (pe_and (pe_cmpR (kNe g.K hr.units) (pv 5) (pv 4) (nomark _)) (pe_one (pe_cmpR (kEq g.K hr.units) (pe_slice (kSl g.K) (pv 5) po_none (po_some (pe_callB (kLen g.K) (by rfl) T.z_len PySem.boot_len (pa_cons (pv 4) pa_nil)))) (pv 4) (nomark _)))))) pa_nil)) (by intro _; rfl))))) (fun _ _ _ _ _ => (pv 4))) pa_nil)) pa_nil))))), ?_⟩
  exact (sim_seq (sim_asg (sim_val (sim_lc (vs := [3]) (sim_iter (sim_val (sim_call (sim_cons (sim_var 0) sim_nil)))) (sim_gname 3) (only_name (by decide)) (sim_tmpB (sim_test (sim_op sim_ge (sim_cb sim_len (sim_cons (sim_call (sim_cons (sim_var 0) (sim_cons (sim_var 3) sim_nil))) sim_nil)) (sim_var 1)))) (sim_var 3))) (sim_gname 2))
      (sim_ret (sim_cb sim_tuple (sim_cons (sim_val (sim_cb sim_sortedV (sim_cons (sim_val (sim_lc (vs := [4]) (sim_iter (sim_var 2)) (sim_gname 4) (only_name (by decide)) (sim_tmpB (sim_not (sim_tru (sim_cb sim_any (sim_cons (sim_val (sim_lc (vs := [5]) (sim_iter (sim_var 2)) (sim_gname 5) (only_name (by decide)) sim_yes (sim_tmp (sim_andV (sim_op sim_ne (sim_var 5) (sim_var 4)) (sim_op sim_eq (sim_sl sim_slice (sim_var 5) sim_no (sim_so (sim_cb sim_len (sim_cons (sim_var 4) sim_nil)))) (sim_var 4)))))) sim_nil))))) (sim_var 4))) sim_nil))) sim_nil))))
theorem ok__law_some (T : Txt P w g.K g.er mg base a_under a_branches a_all_prefixes a_deepest a__law_take a__law_some a__law_bag a__law_alike a__law_post a_law d_under d_branches d_all_prefixes d_deepest d__law_take d__law_some d__law_bag d__law_alike d__law_post d_law) : FnOk P w g.K mg base CX0 2 a__law_some d__law_some ["bag", "things"] (SpB g F__law_some) := by
  refine defB_ok (fs := fs__law_some) T.F__law_some sc__law_some (fun cdv A outer s H E hr => ?_) ref__law_some
  refine ⟨_, (pss_one (ps_ret (pe_ix (kIx g.K) (pv 1) (pe_call (ok__law_take T) hr rfl T.g__law_take T.F__law_take.kp T.b__law_take .nil pass0 (pa_cons (pv 0) (pa_cons (pe_callB (kLen g.K) (by rfl) T.z_len PySem.boot_len (pa_cons (pv 1) pa_nil)) pa_nil))) (fun _ _ => rfl)))), ?_⟩
  exact (sim_ret (sim_op sim_ix (sim_var 1) (sim_callB (sim_cons (sim_var 0) (sim_cons (sim_cb sim_len (sim_cons (sim_var 1) sim_nil)) sim_nil)))))
theorem ok__law_post (T : Txt P w g.K g.er mg base a_under a_branches a_all_prefixes a_deepest a__law_take a__law_some a__law_bag a__law_alike a__law_post a_law d_under d_branches d_all_prefixes d_deepest d__law_take d__law_some d__law_bag d__law_alike d__law_post d_law) : FnOk P w g.K mg base CX0 3 a__law_post d__law_post ["bag", "most"] (SpB g F__law_post) := by
  refine defB_ok (fs := fs__law_post) T.F__law_post sc__law_post (fun cdv A outer s H E hr => ?_) ref__law_post
  refine ⟨_, (pss_cons (ps_set (i := 2) sc__law_post.nd rfl (Or.inl rfl) (kJoin g.K pe_str (pe_lc (own := [("sign", 3)]) (g := (gName 3)) (tt := tYes) rfl sc__law_post.nd (pi_range1 (by rfl) T.z_range (pa_cons pe_int pa_nil)) (blkOk_by (own := [("sign", 3)]) (N := N__law_post) (sc := defScope s__law_post) (by decide +kernel)) (fun _ _ _ _ _ => (pg_name (i := 3) sc__law_post.nd rfl (by first | exact Or.inl rfl | exact Or.inr rfl))) (fun _ _ _ _ _ => pts_nil) (fun _ _ _ _ _ => (pe_call (ok__law_some T) hr rfl T.g__law_some T.F__law_some.kp T.b__law_some .nil pass0 (pa_cons (pv 0) (pa_cons (pe_lst (pa_cons pe_str (pa_cons pe_str pa_nil))) pa_nil)))))))
      (pss_cons (ps_set (i := 4) sc__law_post.nd rfl (Or.inl rfl) (pe_lst pa_nil))
      (pss_cons (ps_for PassesOwn.never rfl (pi_range1 (by rfl) T.z_range (pa_cons (pe_op (kAdd g.K) pe_int (pe_call (ok__law_take T) (hr.mono (by decide)) rfl T.g__law_take T.F__law_take.kp T.b__law_take .nil pass0 (pa_cons (pv 0) (pa_cons (pv 1) pa_nil)))) pa_nil)) (pg_name (i := 5) sc__law_post.nd rfl (Or.inl rfl)) (pss_cons (ps_set (i := 6) sc__law_post.nd rfl (Or.inl rfl) (pe_call (ok__law_take T) (hr.mono (by decide)) rfl T.g__law_take T.F__law_take.kp T.b__law_take .nil pass0 (pa_cons (pv 0) (pa_cons pe_int pa_nil))))
      (pss_one (ps_expr (pe_bm PySem.F.plainAttrs_list PySem.F.slot_list_append PySem.F.type_list_append mt_append (pv 4) (pa_cons (pe_slice (kSl g.K) (pe_op (kAdd g.K) (pe_slice (kSl g.K) (pv 2) po_none (po_some (pv 6))) (pe_call (ok__law_some T) hr rfl T.g__law_some T.F__law_some.kp T.b__law_some .nil pass0 (pa_cons (pv 0) (pa_cons (pe_lst (pa_cons pe_str (pa_cons pe_str (pa_cons pe_str (pa_cons pe_str pa_nil))))) pa_nil)))) po_none (po_some (pe_op (kAdd g.K) pe_int (pe_call (ok__law_take T) (hr.mono (by decide)) rfl T.g__law_take T.F__law_take.kp T.b__law_take .nil pass0 (pa_cons (pv 0) (pa_cons pe_int pa_nil)))))) pa_nil))))))
      (pss_one (ps_ret (pe_callTy (kTupOf g.K) (by rfl) T.z_tuple (by decide +kernel) (pa_cons (pv 4) pa_nil))))))), ?_⟩
  exact (sim_seq (sim_asg (sim_tmp (sim_m1 sim_join (sim_str []) (sim_val (sim_lc (vs := [3]) (sim_rng1 (sim_cons (sim_int 3) sim_nil)) (sim_gname 3) (only_name (by decide)) sim_yes (sim_tmp (sim_callB (sim_cons (sim_var 0) (sim_cons (sim_val (sim_lst (sim_cons (sim_str [49]) (sim_cons (sim_str [50]) sim_nil)))) sim_nil)))))))) (sim_gname 2))
      (sim_seq (sim_asg (sim_tmp (sim_lst sim_nil)) (sim_gname 4))
      (sim_seq (sim_for (sim_rng1 (sim_cons (sim_op sim_add (sim_int 1) (sim_callB (sim_cons (sim_var 0) (sim_cons (sim_var 1) sim_nil)))) sim_nil)) (sim_gname 5) (sim_seq (sim_asg (sim_tmp (sim_callB (sim_cons (sim_var 0) (sim_cons (sim_int 4) sim_nil)))) (sim_gname 6))
      (sim_drop (sim_bm sim_append (sim_var 4) (sim_cons (sim_tmp (sim_sl sim_slice (sim_op sim_add (sim_sl sim_slice (sim_var 2) sim_no (sim_so (sim_var 6))) (sim_callB (sim_cons (sim_var 0) (sim_cons (sim_val (sim_lst (sim_cons (sim_str [49]) (sim_cons (sim_str [50]) (sim_cons (sim_str [49, 50]) (sim_cons (sim_str [50, 49]) sim_nil)))))) sim_nil)))) sim_no (sim_so (sim_op sim_add (sim_int 1) (sim_callB (sim_cons (sim_var 0) (sim_cons (sim_int 4) sim_nil))))))) sim_nil)))))
      (sim_ret (sim_cb sim_tuple (sim_cons (sim_var 4) sim_nil))))))
theorem ok_law (T : Txt P w g.K g.er mg base a_under a_branches a_all_prefixes a_deepest a__law_take a__law_some a__law_bag a__law_alike a__law_post a_law d_under d_branches d_all_prefixes d_deepest d__law_take d__law_some d__law_bag d__law_alike d__law_post d_law) : FnG P w g.K mg base CX0 4 a_law d_law ["script"] (SpL g) := by
  refine defLG_ok (fs := fs_law) T.F_law sc_law (fun cdv A outer s H E hg hr => ?_) ref_law
  refine ⟨_, (pss_cons (ps_set (i := 1) sc_law.nd rfl (Or.inl rfl) (pe_call (ok__law_bag T) (hr.mono (by decide)) rfl T.g__law_bag T.F__law_bag.kp T.b__law_bag .nil pass0 (pa_cons (pv 0) pa_nil)))
      (pss_cons (ps_for PassesOwn.never rfl (pi_range1 (by rfl) T.z_range (pa_cons pe_int pa_nil)) (pg_name (i := 2) sc_law.nd rfl (Or.inl rfl)) (pss_cons (ps_set (i := 3) sc_law.nd rfl (Or.inr rfl) (pe_call (ok__law_post T) hr rfl T.g__law_post T.F__law_post.kp T.b__law_post .nil pass0 (pa_cons (pv 1) (pa_cons pe_int pa_nil))))
      (pss_cons (ps_par (i := 4) (j := 5) (by rfl) sc_law.nd rfl rfl (by decide) rfl rfl (pa_cons (pe_callB (kRepr g.K hg hr) (by rfl) T.z_repr (by decide +kernel) (pa_cons (pv 3) pa_nil)) (pa_cons (pe_lst pa_nil) pa_nil)) (by rfl))
      (pss_cons (ps_for PassesOwn.never rfl (kIt g.K (pv 3)) (pg_name (i := 6) sc_law.nd rfl (Or.inr rfl)) (pss_one (ps_expr (pe_bm PySem.F.plainAttrs_list PySem.F.slot_list_extend PySem.F.type_list_extend mt_extend (pv 5) (pa_cons (pe_lc (own := [("end", 7)]) (g := (gName 7)) (tt := tYes) rfl sc_law.nd (pi_range1 (by rfl) T.z_range (pa_cons (pe_op (kAdd g.K) (pe_callB (kLen g.K) (by rfl) T.z_len PySem.boot_len (pa_cons (pv 6) pa_nil)) pe_int) pa_nil)) (blkOk_by (own := [("end", 7)]) (N := N_law) (sc := defScope s_law) (by decide +kernel)) (fun _ _ _ _ _ => (pg_name (i := 7) sc_law.nd rfl (by first | exact Or.inl rfl | exact Or.inr rfl))) (fun _ _ _ _ _ => pts_nil) (fun _ _ _ _ _ => (pe_slice (kSl g.K) (pv 6) po_none (po_some (pv 7))))) pa_nil)))))
      (pss_cons (ps_set (i := 5) sc_law.nd rfl (Or.inl rfl) (kSS g.K hr rfl T.z_sorted rfl T.z_set (pv 5) rfl))
      (pss_cons (ps_for PassesOwn.never rfl (kIt g.K (pe_op (kAdd g.K) (pv 5) (pe_lst (pa_cons pe_str (pa_cons pe_str (pa_cons pe_str pa_nil)))))) (pg_name (i := 8) sc_law.nd rfl (Or.inr rfl)) (pss_cons (ps_setLc (i := 9) (hc := rfl) (hN := sc_law.nd) (hy := rfl) (hyl := rfl) (hsw := sw_true rfl rfl rfl (by decide +kernel)) (own := [("at", 10), ("code", 6)]) (g := (gTup _ 2 (gCons (gName 10) (gCons (gName 6) gNil)))) (kEnum g.K rfl T.z_enumerate (pa_cons (pv 3) pa_nil)) (blkOk_by (own := [("at", 10), ("code", 6)]) (N := N_law) (sc := defScope s_law) (by decide +kernel)) (fun _ _ _ _ _ => (kTup g.K rfl (pgs_cons (pg_name (i := 10) sc_law.nd rfl (by first | exact Or.inl rfl | exact Or.inr rfl)) (pgs_cons (pg_name (i := 6) sc_law.nd rfl (by first | exact Or.inl rfl | exact Or.inr rfl)) pgs_nil)))) (fun _ _ _ _ _ => (pts_one (pt_cmpR (kEq g.K hr.units) (pe_slice (kSl g.K) (pv 6) po_none (po_some (pe_callB (kLen g.K) (by rfl) T.z_len PySem.boot_len (pa_cons (pv 8) pa_nil)))) (pv 8) (nomark _)))) (fun _ _ _ _ _ => (pv 10)))
      (pss_cons (ps_set (i := 11) sc_law.nd rfl (Or.inl rfl) (kSS g.K hr rfl T.z_sorted rfl T.z_set (pe_lc (own := [("at", 10)]) (g := (gName 10)) rfl sc_law.nd (kIt g.K (pv 9)) (blkOk_by (own := [("at", 10)]) (N := N_law) (sc := defScope s_law) (by decide +kernel)) (fun _ _ _ _ _ => (pg_name (i := 10) sc_law.nd rfl (by first | exact Or.inl rfl | exact Or.inr rfl))) (fun _ _ _ _ _ => (pts_one (pt_cmpR op_uGt (pe_callB (kLen g.K) (by rfl) T.z_len PySem.boot_len (pa_cons (pe_ix (kIx g.K) (pv 3) (pv 10) (fun _ _ => rfl)) pa_nil)) (pe_callB (kLen g.K) (by rfl) T.z_len PySem.boot_len (pa_cons (pv 8) pa_nil)) (nomark _)))) (fun _ _ _ _ _ => (pe_slice (kSl g.K) (pe_ix (kIx g.K) (pv 3) (pv 10) (fun _ _ => rfl)) po_none (po_some (pe_op (kAdd g.K) (pe_callB (kLen g.K) (by rfl) T.z_len PySem.boot_len (pa_cons (pv 8) pa_nil)) pe_int))))) rfl))
      (pss_one (ps_for PassesOwn.never rfl (pi_range1 (by rfl) T.z_range (pa_cons pe_int pa_nil)) (pg_name (i := 12) sc_law.nd rfl (Or.inl rfl)) (pss_cons (ps_set (i := 13) sc_law.nd rfl (Or.inl rfl) (pe_lst (pa_cons (pe_call (ok_under T) (hr.mono (by decide)) rfl T.g_under T.F_under.kp T.b_under .nil pass0 (pa_cons (pv 3) (pa_cons (pv 8) pa_nil))) (pa_cons (pe_call (ok_branches T) (hr.mono (by decide)) rfl T.g_branches T.F_branches.kp T.b_branches .nil pass0 (pa_cons (pv 3) (pa_cons (pv 8) pa_nil))) pa_nil))))
      (pss_one (ps_if (PW.pt (pw_or (pt_not (kTru g.K (pe_call (ok__law_alike T) (hr.mono (by decide)) rfl T.g__law_alike T.F__law_alike.kp T.b__law_alike .nil pass0 (pa_cons (pv 13) (pa_cons (pe_lst (pa_cons (pe_callTy (kTupOf g.K) (by rfl) T.z_tuple (by decide +kernel) (pa_cons (pv 9) pa_nil)) (pa_cons (pe_callTy (kTupOf g.K) (by rfl) T.z_tuple (by decide +kernel) (pa_cons (pv 11) pa_nil)) pa_nil))) pa_nil))) (by intro _; rfl))) (pw_or1 (pt_cmpR (kNe g.K hr.units) (pe_callB (kRepr g.K hg hr) (by rfl) T.z_repr (by decide +kernel) (pa_cons (pv 3) pa_nil)) (pv 4) (nomark _))))) (pss_one (ps_ret pe_bl)) pss_nil))))))))
      (pss_one (ps_for PassesOwn.never rfl (kIt g.K (pe_tup (pa_cons pe_int (pa_cons pe_int (pa_cons pe_int (pa_cons pe_int pa_nil)))))) (pg_name (i := 14) sc_law.nd rfl (Or.inr rfl)) (pss_cons (ps_set (i := 15) sc_law.nd rfl (Or.inr rfl) (pe_lc (own := [("one", 16)]) (g := (gName 16)) rfl sc_law.nd (kIt g.K (pv 5)) (blkOk_by (own := [("one", 16)]) (N := N_law) (sc := defScope s_law) (by decide +kernel)) (fun _ _ _ _ _ => (pg_name (i := 16) sc_law.nd rfl (by first | exact Or.inl rfl | exact Or.inr rfl))) (fun _ _ _ _ _ => (pts_one (pt_cmpR op_uGe (pe_callB (kLen g.K) (by rfl) T.z_len PySem.boot_len (pa_cons (pe_lc (own := [("code", 6)]) (g := (gName 6)) rfl sc_law.nd (kIt g.K (pv 3)) (blkOk_by (own := [("code", 6)]) (by kernel_rfl)) (fun _ _ _ _ _ => (pg_name (i := 6) sc_law.nd rfl (by first | exact Or.inl rfl | exact Or.inr rfl))) (fun _ _ _ _ _ => (pts_one (pt_cmpR (kEq g.K hr.units) (pe_slice (kSl g.K) (pv 6) po_none (po_some (pe_callB (kLen g.K) (by rfl) T.z_len PySem.boot_len (pa_cons (pv 16) pa_nil)))) (pv 16) (nomark _)))) (fun _ _ _ _ _ => pe_int)) pa_nil)) (pv 14) (nomark _)))) (fun _ _ _ _ _ => (pv 16))))
      (pss_cons (ps_setLc (i := 17) (hc := rfl) (hN := sc_law.nd) (hy := rfl) (hyl := rfl) (hsw := sw_true rfl rfl rfl (by decide +kernel)) (own := [("one", 16)]) (g := (gName 16)) (kIt g.K (pv 15)) (blkOk_by (own := [("one", 16)]) (N := N_law) (sc := defScope s_law) (by decide +kernel)) (fun _ _ _ _ _ => (pg_name (i := 16) sc_law.nd rfl (by first | exact Or.inl rfl | exact Or.inr rfl))) (fun _ _ _ _ _ => (pts_one (pt_cmpR (kEq g.K hr.units) (pe_lc (own := [("other", 18)]) (g := (gName 18)) rfl sc_law.nd (kIt g.K (pv 15)) (blkOk_by (own := [("other", 18)]) (by kernel_rfl)) (fun _ _ _ _ _ => (pg_name (i := 18) sc_law.nd rfl (by first | exact Or.inl rfl | exact Or.inr rfl))) (fun _ _ _ _ _ => (pts_one (PW.pt (pw_and (pt_cmpR (kNe g.K hr.units) (pv 18) (pv 16) (nomark _)) (pw_and1 (pt_cmpR (kEq g.K hr.units) (pe_slice (kSl g.K) (pv 18) po_none (po_some (pe_callB (kLen g.K) (by rfl) T.z_len PySem.boot_len (pa_cons (pv 16) pa_nil)))) (pv 16) (nomark _))))))) (fun _ _ _ _ _ => pe_int)) (pe_lst pa_nil) (nomark _)))) (fun _ _ _ _ _ => (pv 16)))
      (pss_one (ps_if (pt_not (kTru g.K (pe_call (ok__law_alike T) (hr.mono (by decide)) rfl T.g__law_alike T.F__law_alike.kp T.b__law_alike .nil pass0 (pa_cons (pe_call (ok_deepest T) (hr.mono (by decide)) rfl T.g_deepest T.F_deepest.kp T.b_deepest .nil pass0 (pa_cons (pv 3) (pa_cons (pv 14) pa_nil))) (pa_cons (pe_callTy (kTupOf g.K) (by rfl) T.z_tuple (by decide +kernel) (pa_cons (pv 17) pa_nil)) pa_nil))) (by intro _; rfl))) (pss_one (ps_ret pe_bl)) pss_nil))))))))))))
      (pss_one (ps_ret pe_bl)))), ?_⟩
  exact (sim_seq (sim_asg (sim_newB (sim_cons (sim_var 0) sim_nil)) (sim_gname 1))
      (sim_seq (sim_for (sim_rng1 (sim_cons (sim_int 8) sim_nil)) (sim_gname 2) (sim_seq (sim_asg (sim_tmp (sim_callB (sim_cons (sim_var 1) (sim_cons (sim_int 9) sim_nil)))) (sim_gname 3))
      (sim_seq (sim_par (sim_cons (sim_cb sim_repr (sim_cons (sim_var 3) sim_nil)) (sim_cons (sim_lst sim_nil) sim_nil)))
      (sim_seq (sim_for (sim_iter (sim_var 3)) (sim_gname 6) (sim_drop (sim_bm sim_extend (sim_var 5) (sim_cons (sim_val (sim_lc (vs := [7]) (sim_rng1 (sim_cons (sim_op sim_add (sim_cb sim_len (sim_cons (sim_var 6) sim_nil)) (sim_int 1)) sim_nil)) (sim_gname 7) (only_name (by decide)) sim_yes (sim_tmp (sim_sl sim_slice (sim_var 6) sim_no (sim_so (sim_var 7)))))) sim_nil))))
      (sim_seq (sim_asg (sim_tmp (sim_ss (sim_var 5))) (sim_gname 5))
      (sim_seq (sim_for (sim_iter (sim_val (sim_op sim_add (sim_var 5) (sim_val (sim_lst (sim_cons (sim_str [57]) (sim_cons (sim_str [51, 51]) (sim_cons (sim_str [49, 50, 51, 52, 53, 54]) sim_nil)))))))) (sim_gname 8) (sim_seq (sim_asg (sim_val (sim_lc (vs := [10, 6]) (sim_enum (sim_cons (sim_var 3) sim_nil)) (sim_gtup (sim_gcons (sim_gname 10) (sim_gcons (sim_gname 6) sim_gnil))) (only_tup (only_cons (only_name (by decide)) (only_cons (only_name (by decide)) only_nil (mono_name _)) (mono_name _))) (sim_tmpB (sim_test (sim_op sim_eq (sim_sl sim_slice (sim_var 6) sim_no (sim_so (sim_cb sim_len (sim_cons (sim_var 8) sim_nil)))) (sim_var 8)))) (sim_var 10))) (sim_gname 9))
      (sim_seq (sim_asg (sim_val (sim_ss (sim_val (sim_lc (vs := [10]) (sim_iter (sim_var 9)) (sim_gname 10) (only_name (by decide)) (sim_test (sim_op sim_gt (sim_cb sim_len (sim_cons (sim_op sim_ix (sim_var 3) (sim_var 10)) sim_nil)) (sim_cb sim_len (sim_cons (sim_var 8) sim_nil)))) (sim_tmp (sim_sl sim_slice (sim_op sim_ix (sim_var 3) (sim_var 10)) sim_no (sim_so (sim_op sim_add (sim_cb sim_len (sim_cons (sim_var 8) sim_nil)) (sim_int 1))))))))) (sim_gname 11))
      (sim_for (sim_rng1 (sim_cons (sim_int 2) sim_nil)) (sim_gname 12) (sim_seq (sim_asg (sim_val (sim_lst (sim_cons (sim_call (sim_cons (sim_var 3) (sim_cons (sim_var 8) sim_nil))) (sim_cons (sim_call (sim_cons (sim_var 3) (sim_cons (sim_var 8) sim_nil))) sim_nil)))) (sim_gname 13))
      (sim_ifS (sim_tmpB (sim_or (sim_not (sim_tru (sim_call (sim_cons (sim_var 13) (sim_cons (sim_val (sim_lst (sim_cons (sim_cb sim_tuple (sim_cons (sim_var 9) sim_nil)) (sim_cons (sim_cb sim_tuple (sim_cons (sim_var 11) sim_nil)) sim_nil)))) sim_nil))))) (sim_test (sim_op sim_ne (sim_cb sim_repr (sim_cons (sim_var 3) sim_nil)) (sim_var 4))))) (sim_ret (sim_bl false)) sim_next))))))
      (sim_for (sim_iter (sim_tup (sim_cons (sim_int 1) (sim_cons (sim_int 2) (sim_cons (sim_int 3) (sim_cons (sim_int 9) sim_nil)))))) (sim_gname 14) (sim_seq (sim_asg (sim_val (sim_lc (vs := [16]) (sim_iter (sim_var 5)) (sim_gname 16) (only_name (by decide)) (sim_tmpB (sim_test (sim_op sim_ge (sim_cb sim_len (sim_cons (sim_val (sim_lc (vs := [6]) (sim_iter (sim_var 3)) (sim_gname 6) (only_name (by decide)) (sim_tmpB (sim_test (sim_op sim_eq (sim_sl sim_slice (sim_var 6) sim_no (sim_so (sim_cb sim_len (sim_cons (sim_var 16) sim_nil)))) (sim_var 16)))) (sim_int 1))) sim_nil)) (sim_var 14)))) (sim_var 16))) (sim_gname 15))
      (sim_seq (sim_asg (sim_val (sim_lc (vs := [16]) (sim_iter (sim_var 15)) (sim_gname 16) (only_name (by decide)) (sim_tmpB (sim_test (sim_op sim_eq (sim_val (sim_lc (vs := [18]) (sim_iter (sim_var 15)) (sim_gname 18) (only_name (by decide)) (sim_tmpB (sim_and (sim_test (sim_op sim_ne (sim_var 18) (sim_var 16))) (sim_test (sim_op sim_eq (sim_sl sim_slice (sim_var 18) sim_no (sim_so (sim_cb sim_len (sim_cons (sim_var 16) sim_nil)))) (sim_var 16))))) (sim_int 1))) (sim_val (sim_lst sim_nil))))) (sim_var 16))) (sim_gname 17))
      (sim_ifS (sim_tmpB (sim_not (sim_tru (sim_call (sim_cons (sim_call (sim_cons (sim_var 3) (sim_cons (sim_var 14) sim_nil))) (sim_cons (sim_cb sim_tuple (sim_cons (sim_var 17) sim_nil)) sim_nil)))))) (sim_ret (sim_bl false)) sim_next))))))))))
      (sim_ret (sim_bl true))))
end
theorem all_mk {l : PySem.W.OpenLaw} {w : World} {K : PySem.W.Frag} {h : Heap} {mg : Str → Option Value} {fa : Addr} {a_under a_branches a_all_prefixes a_deepest a__law_take a__law_some a__law_bag a__law_alike a__law_post a_law : Addr} (X : K.In h) (G : h.Ns mainGlobals mg) (hfa : mg "law" = some (.ref fa))
    {od_under an_under : Option Addr} {sl_under : Array (Option Value)} {oc_under kV_under dc_under pm_under cd_under ct_under : Value}
    {od_branches an_branches : Option Addr} {sl_branches : Array (Option Value)} {oc_branches kV_branches dc_branches pm_branches cd_branches ct_branches : Value}
    {od_all_prefixes an_all_prefixes : Option Addr} {sl_all_prefixes : Array (Option Value)} {oc_all_prefixes kV_all_prefixes dc_all_prefixes pm_all_prefixes cd_all_prefixes ct_all_prefixes : Value}
    {od_deepest an_deepest : Option Addr} {sl_deepest : Array (Option Value)} {oc_deepest kV_deepest dc_deepest pm_deepest cd_deepest ct_deepest : Value}
    {od__law_take an__law_take : Option Addr} {sl__law_take : Array (Option Value)} {oc__law_take kV__law_take dc__law_take pm__law_take cd__law_take ct__law_take : Value}
    {od__law_some an__law_some : Option Addr} {sl__law_some : Array (Option Value)} {oc__law_some kV__law_some dc__law_some pm__law_some cd__law_some ct__law_some : Value}
    {od__law_bag an__law_bag : Option Addr} {sl__law_bag : Array (Option Value)} {oc__law_bag kV__law_bag dc__law_bag pm__law_bag cd__law_bag ct__law_bag : Value}
    {od__law_alike an__law_alike : Option Addr} {sl__law_alike : Array (Option Value)} {oc__law_alike kV__law_alike dc__law_alike pm__law_alike cd__law_alike ct__law_alike : Value}
    {od__law_post an__law_post : Option Addr} {sl__law_post : Array (Option Value)} {oc__law_post kV__law_post dc__law_post pm__law_post cd__law_post ct__law_post : Value}
    {od_law an_law : Option Addr} {sl_law : Array (Option Value)} {oc_law kV_law dc_law pm_law cd_law ct_law : Value}
    (q1_under : PySem.W.nsIn K mainGlobals "under" = some (some (.ref a_under))) (q2_under : K.lookup a_under = some ⟨oc_under, od_under, .func (PySem.W.fnOf "under" "under" (defArgs s_under) (defBody s_under) (defScope s_under) .none kV_under dc_under pm_under an_under cd_under ct_under), sl_under⟩) (q3_under : PySem.W.codeIn K cd_under "under" = true) (q4_under : PySem.W.keepIn K (.ref a_under) = true)
    (q1_branches : PySem.W.nsIn K mainGlobals "branches" = some (some (.ref a_branches))) (q2_branches : K.lookup a_branches = some ⟨oc_branches, od_branches, .func (PySem.W.fnOf "branches" "branches" (defArgs s_branches) (defBody s_branches) (defScope s_branches) .none kV_branches dc_branches pm_branches an_branches cd_branches ct_branches), sl_branches⟩) (q3_branches : PySem.W.codeIn K cd_branches "branches" = true) (q4_branches : PySem.W.keepIn K (.ref a_branches) = true)
    (q1_all_prefixes : PySem.W.nsIn K mainGlobals "all_prefixes" = some (some (.ref a_all_prefixes))) (q2_all_prefixes : K.lookup a_all_prefixes = some ⟨oc_all_prefixes, od_all_prefixes, .func (PySem.W.fnOf "all_prefixes" "all_prefixes" (defArgs s_all_prefixes) (defBody s_all_prefixes) (defScope s_all_prefixes) .none kV_all_prefixes dc_all_prefixes pm_all_prefixes an_all_prefixes cd_all_prefixes ct_all_prefixes), sl_all_prefixes⟩) (q3_all_prefixes : PySem.W.codeIn K cd_all_prefixes "all_prefixes" = true) (q4_all_prefixes : PySem.W.keepIn K (.ref a_all_prefixes) = true)
    (q1_deepest : PySem.W.nsIn K mainGlobals "deepest" = some (some (.ref a_deepest))) (q2_deepest : K.lookup a_deepest = some ⟨oc_deepest, od_deepest, .func (PySem.W.fnOf "deepest" "deepest" (defArgs s_deepest) (defBody s_deepest) (defScope s_deepest) .none kV_deepest dc_deepest pm_deepest an_deepest cd_deepest ct_deepest), sl_deepest⟩) (q3_deepest : PySem.W.codeIn K cd_deepest "deepest" = true) (q4_deepest : PySem.W.keepIn K (.ref a_deepest) = true)
    (q1__law_take : PySem.W.nsIn K mainGlobals "_law_take" = some (some (.ref a__law_take))) (q2__law_take : K.lookup a__law_take = some ⟨oc__law_take, od__law_take, .func (PySem.W.fnOf "_law_take" "_law_take" (defArgs s__law_take) (defBody s__law_take) (defScope s__law_take) .none kV__law_take dc__law_take pm__law_take an__law_take cd__law_take ct__law_take), sl__law_take⟩) (q3__law_take : PySem.W.codeIn K cd__law_take "_law_take" = true) (q4__law_take : PySem.W.keepIn K (.ref a__law_take) = true)
    (q1__law_some : PySem.W.nsIn K mainGlobals "_law_some" = some (some (.ref a__law_some))) (q2__law_some : K.lookup a__law_some = some ⟨oc__law_some, od__law_some, .func (PySem.W.fnOf "_law_some" "_law_some" (defArgs s__law_some) (defBody s__law_some) (defScope s__law_some) .none kV__law_some dc__law_some pm__law_some an__law_some cd__law_some ct__law_some), sl__law_some⟩) (q3__law_some : PySem.W.codeIn K cd__law_some "_law_some" = true) (q4__law_some : PySem.W.keepIn K (.ref a__law_some) = true)
    (q1__law_bag : PySem.W.nsIn K mainGlobals "_law_bag" = some (some (.ref a__law_bag))) (q2__law_bag : K.lookup a__law_bag = some ⟨oc__law_bag, od__law_bag, .func (PySem.W.fnOf "_law_bag" "_law_bag" (defArgs s__law_bag) (defBody s__law_bag) (defScope s__law_bag) .none kV__law_bag dc__law_bag pm__law_bag an__law_bag cd__law_bag ct__law_bag), sl__law_bag⟩) (q3__law_bag : PySem.W.codeIn K cd__law_bag "_law_bag" = true) (q4__law_bag : PySem.W.keepIn K (.ref a__law_bag) = true)
    (q1__law_alike : PySem.W.nsIn K mainGlobals "_law_alike" = some (some (.ref a__law_alike))) (q2__law_alike : K.lookup a__law_alike = some ⟨oc__law_alike, od__law_alike, .func (PySem.W.fnOf "_law_alike" "_law_alike" (defArgs s__law_alike) (defBody s__law_alike) (defScope s__law_alike) .none kV__law_alike dc__law_alike pm__law_alike an__law_alike cd__law_alike ct__law_alike), sl__law_alike⟩) (q3__law_alike : PySem.W.codeIn K cd__law_alike "_law_alike" = true) (q4__law_alike : PySem.W.keepIn K (.ref a__law_alike) = true)
    (q1__law_post : PySem.W.nsIn K mainGlobals "_law_post" = some (some (.ref a__law_post))) (q2__law_post : K.lookup a__law_post = some ⟨oc__law_post, od__law_post, .func (PySem.W.fnOf "_law_post" "_law_post" (defArgs s__law_post) (defBody s__law_post) (defScope s__law_post) .none kV__law_post dc__law_post pm__law_post an__law_post cd__law_post ct__law_post), sl__law_post⟩) (q3__law_post : PySem.W.codeIn K cd__law_post "_law_post" = true) (q4__law_post : PySem.W.keepIn K (.ref a__law_post) = true)
    (q1_law : PySem.W.nsIn K mainGlobals "law" = some (some (.ref a_law))) (q2_law : K.lookup a_law = some ⟨oc_law, od_law, .func (PySem.W.fnOf "law" "law" (defArgs s_law) (defBody s_law) (defScope s_law) .none kV_law dc_law pm_law an_law cd_law ct_law), sl_law⟩) (q3_law : PySem.W.codeIn K cd_law "law" = true) (q4_law : PySem.W.keepIn K (.ref a_law) = true)
    (z_abs : PySem.W.nsIn K mainGlobals "abs" = some none)
    (z_any : PySem.W.nsIn K mainGlobals "any" = some none)
    (z_bool : PySem.W.nsIn K mainGlobals "bool" = some none)
    (z_enumerate : PySem.W.nsIn K mainGlobals "enumerate" = some none)
    (z_int : PySem.W.nsIn K mainGlobals "int" = some none)
    (z_isinstance : PySem.W.nsIn K mainGlobals "isinstance" = some none)
    (z_len : PySem.W.nsIn K mainGlobals "len" = some none)
    (z_list : PySem.W.nsIn K mainGlobals "list" = some none)
    (z_range : PySem.W.nsIn K mainGlobals "range" = some none)
    (z_repr : PySem.W.nsIn K mainGlobals "repr" = some none)
    (z_set : PySem.W.nsIn K mainGlobals "set" = some none)
    (z_sorted : PySem.W.nsIn K mainGlobals "sorted" = some none)
    (z_str : PySem.W.nsIn K mainGlobals "str" = some none)
    (z_tuple : PySem.W.nsIn K mainGlobals "tuple" = some none)
    (z_zip : PySem.W.nsIn K mainGlobals "zip" = some none)
    : ∃ fd : FuncData, (∀ (s : Shared) (v : Value), BindsTo s fd ⟨[v], []⟩ [("script", v)]) ∧ ∀ base : Heap, K.In base → base.Ns mainGlobals mg → FnG l.prog w K mg base CX0 4 fa fd ["script"] (SpL ⟨K, fun _ _ _ _ => False⟩) := by
  have e := hfa.symm.trans (PySem.W.mg_of X G q1_law)
  cases e
  have F_under := fun_mk (st := s_under) q2_under q3_under q4_under
  have b_under := F_under.binds (ps := ["post", "prefix"]) fun _ _ _ _ _ _ us hl => match us, hl with | [_, _], _ => rfl
  have F_branches := fun_mk (st := s_branches) q2_branches q3_branches q4_branches
  have b_branches := F_branches.binds (ps := ["post", "prefix"]) fun _ _ _ _ _ _ us hl => match us, hl with | [_, _], _ => rfl
  have F_all_prefixes := fun_mk (st := s_all_prefixes) q2_all_prefixes q3_all_prefixes q4_all_prefixes
  have b_all_prefixes := F_all_prefixes.binds (ps := ["post"]) fun _ _ _ _ _ _ us hl => match us, hl with | [_], _ => rfl
  have F_deepest := fun_mk (st := s_deepest) q2_deepest q3_deepest q4_deepest
  have b_deepest := F_deepest.binds (ps := ["post", "least"]) fun _ _ _ _ _ _ us hl => match us, hl with | [_, _], _ => rfl
  have F__law_take := fun_mk (st := s__law_take) q2__law_take q3__law_take q4__law_take
  have b__law_take := F__law_take.binds (ps := ["bag", "many"]) fun _ _ _ _ _ _ us hl => match us, hl with | [_, _], _ => rfl
  have F__law_some := fun_mk (st := s__law_some) q2__law_some q3__law_some q4__law_some
  have b__law_some := F__law_some.binds (ps := ["bag", "things"]) fun _ _ _ _ _ _ us hl => match us, hl with | [_, _], _ => rfl
  have F__law_bag := fun_mk (st := s__law_bag) q2__law_bag q3__law_bag q4__law_bag
  have b__law_bag := F__law_bag.binds (ps := ["script"]) fun _ _ _ _ _ _ us hl => match us, hl with | [_], _ => rfl
  have F__law_alike := fun_mk (st := s__law_alike) q2__law_alike q3__law_alike q4__law_alike
  have b__law_alike := F__law_alike.binds (ps := ["found", "due"]) fun _ _ _ _ _ _ us hl => match us, hl with | [_, _], _ => rfl
  have F__law_post := fun_mk (st := s__law_post) q2__law_post q3__law_post q4__law_post
  have b__law_post := F__law_post.binds (ps := ["bag", "most"]) fun _ _ _ _ _ _ us hl => match us, hl with | [_, _], _ => rfl
  have F_law := fun_mk (st := s_law) q2_law q3_law q4_law
  have b_law := F_law.binds (ps := ["script"]) fun _ _ _ _ _ _ us hl => match us, hl with | [_], _ => rfl
  refine ⟨PySem.W.fnOf "law" "law" (defArgs s_law) (defBody s_law) (defScope s_law) .none kV_law dc_law pm_law an_law cd_law ct_law, fun s v => .of_eq rfl, fun base hK _ => ?_⟩
  have T : Txt l.prog w K (fun _ _ _ _ => False) mg base a_under a_branches a_all_prefixes a_deepest a__law_take a__law_some a__law_bag a__law_alike a__law_post fa  _ _ _ _ _ _ _ _ _ _ := ⟨F_under, PySem.W.mg_of X G q1_under, b_under, F_branches, PySem.W.mg_of X G q1_branches, b_branches, F_all_prefixes, PySem.W.mg_of X G q1_all_prefixes, b_all_prefixes, F_deepest, PySem.W.mg_of X G q1_deepest, b_deepest, F__law_take, PySem.W.mg_of X G q1__law_take, b__law_take, F__law_some, PySem.W.mg_of X G q1__law_some, b__law_some, F__law_bag, PySem.W.mg_of X G q1__law_bag, b__law_bag, F__law_alike, PySem.W.mg_of X G q1__law_alike, b__law_alike, F__law_post, PySem.W.mg_of X G q1__law_post, b__law_post, F_law, PySem.W.mg_of X G q1_law, b_law, PySem.W.mg_none_of X G z_abs, PySem.W.mg_none_of X G z_any, PySem.W.mg_none_of X G z_bool, PySem.W.mg_none_of X G z_enumerate, PySem.W.mg_none_of X G z_int, PySem.W.mg_none_of X G z_isinstance, PySem.W.mg_none_of X G z_len, PySem.W.mg_none_of X G z_list, PySem.W.mg_none_of X G z_range, PySem.W.mg_none_of X G z_repr, PySem.W.mg_none_of X G z_set, PySem.W.mg_none_of X G z_sorted, PySem.W.mg_none_of X G z_str, PySem.W.mg_none_of X G z_tuple, PySem.W.mg_none_of X G z_zip⟩
  exact ok_law (g := ⟨K, fun _ _ _ _ => False⟩) T
end P53
open PySem PySem.W PyProof.Rows
set_option maxRecDepth 100000 in
set_option maxHeartbeats 0 in
theorem PySem.Challenge.cw_mergedmail_k53_prefixes_of_posts_holds : PySem.Challenge.rw_mergedmail_k53_prefixes_of_posts.Holds := by
  w_on; o_law; k_head; (case hw => w_witness2)
  k_fill
  refine PF.walk_ofG (l := PySem.Challenge.rw_mergedmail_k53_prefixes_of_posts) (n := 63) (k := 4) (x := "script") (sp := fun w => PF.SpL ⟨_, fun _ _ _ _ => False⟩) rfl (by decide) rfl ⟨rfl, by decide, by decide⟩ (fun w h Y => PySem.W.kIn_of Y) ?F (fun _ _ a ns hl hS => ⟨a, ns, rfl, hS, hl, fun _ => rfl⟩)
  case F =>
    intro w mg fa h KX G hmg
    refine' P53.all_mk KX G hmg ?q1_under ?q2_under ?q3_under ?q4_under ?q1_branches ?q2_branches ?q3_branches ?q4_branches ?q1_all_prefixes ?q2_all_prefixes ?q3_all_prefixes ?q4_all_prefixes ?q1_deepest ?q2_deepest ?q3_deepest ?q4_deepest ?q1__law_take ?q2__law_take ?q3__law_take ?q4__law_take ?q1__law_some ?q2__law_some ?q3__law_some ?q4__law_some ?q1__law_bag ?q2__law_bag ?q3__law_bag ?q4__law_bag ?q1__law_alike ?q2__law_alike ?q3__law_alike ?q4__law_alike ?q1__law_post ?q2__law_post ?q3__law_post ?q4__law_post ?q1_law ?q2_law ?q3_law ?q4_law ?z_abs ?z_any ?z_bool ?z_enumerate ?z_int ?z_isinstance ?z_len ?z_list ?z_range ?z_repr ?z_set ?z_sorted ?z_str ?z_tuple ?z_zip
    (case q1_under => k_is); (case q2_under => k_is); (case q3_under => k_is); (case q4_under => k_is); (case q1_branches => k_is); (case q2_branches => k_is); (case q3_branches => k_is); (case q4_branches => k_is); (case q1_all_prefixes => k_is); (case q2_all_prefixes => k_is); (case q3_all_prefixes => k_is); (case q4_all_prefixes => k_is); (case q1_deepest => k_is); (case q2_deepest => k_is); (case q3_deepest => k_is); (case q4_deepest => k_is); (case q1__law_take => k_is); (case q2__law_take => k_is); (case q3__law_take => k_is); (case q4__law_take => k_is); (case q1__law_some => k_is); (case q2__law_some => k_is); (case q3__law_some => k_is); (case q4__law_some => k_is); (case q1__law_bag => k_is); (case q2__law_bag => k_is); (case q3__law_bag => k_is); (case q4__law_bag => k_is); (case q1__law_alike => k_is); (case q2__law_alike => k_is); (case q3__law_alike => k_is); (case q4__law_alike => k_is); (case q1__law_post => k_is); (case q2__law_post => k_is); (case q3__law_post => k_is); (case q4__law_post => k_is); (case q1_law => k_is); (case q2_law => k_is); (case q3_law => k_is); (case q4_law => k_is); (case z_abs => k_is); (case z_any => k_is); (case z_bool => k_is); (case z_enumerate => k_is); (case z_int => k_is); (case z_isinstance => k_is); (case z_len => k_is); (case z_list => k_is); (case z_range => k_is); (case z_repr => k_is); (case z_set => k_is); (case z_sorted => k_is); (case z_str => k_is); (case z_tuple => k_is); (case z_zip => k_is)
