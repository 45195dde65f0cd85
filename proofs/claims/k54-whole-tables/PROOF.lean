import PyProof.Rows.All
import Wide.All
import OpenK.AllK
import Wide.FinOn
import HandS.ForMost
import HandS.Evl
import HandS.Star
import HandS.IsInst
import HandS.Property
import HandS.Zip
import HandS.Style
import HandS.TupAny
import HandS.SetFor
import HandS.More
import HandS.Walk
import HandS.SortInts
import KE.SortData
import KE.GoesNew
import KE.GoesNewDict
import KE.KDictDisplayH
import KE.KTupSum
import PyProof.ReprRoads
import HandS.SortOrd
import PySem.Challenge.RW_wordshapes_k54_whole_tables_of_told_amou
set_option Elab.async false
set_option linter.all false
set_option maxRecDepth 1000000
set_option maxHeartbeats 8000000
/-! WsA: data that stand in the heap (ints, bools, tuples of them) and what an expression gives. -/
namespace WS
open PySem PySem.Spec PyProof.Rows L2

/-! ### orders of heaps -/
/-- objects that no store of ours changes -/
def Fix : HO → Bool
  | .lst _ => false
  | .dK _ => false
  | .dT _ => false
  | .set _ _ => false
  | .ext _ => false
  | _ => true
/-- what is fixed stays -/
def Kp (H H' : Hp) : Prop := ∀ a o, H a = some o → Fix o = true → H' a = some o
theorem Kp.refl (H : Hp) : Kp H H := fun _ _ h _ => h
theorem Kp.trans {H H1 H2 : Hp} (a : Kp H H1) (b : Kp H1 H2) : Kp H H2 := fun x o h f => b x o (a x o h f) f
theorem Kp.of {H H' : Hp} (e : Same H H') : Kp H H' := fun a o h _ => e a o h
theorem Kp.upd {H : Hp} {p : Addr} {o u : HO} (h : H p = some o) (hf : Fix o = false) : Kp H (upd H p u) := fun a v e f => by
  rw [upd_ne (fun z => by subst z; rw [h] at e; cases e; rw [hf] at f; cases f)]
  exact e
theorem sm_new {H : Hp} {p : Addr} {o : HO} (h : H p = none) : Same H (upd H p o) := fun a u e => by
  rw [upd_ne (ne_of_none e h)]
  exact e
theorem sm_mut {H H' : Hp} {p : Addr} {o : HO} (e : Same H H') (h : H p = none) : Same H (upd H' p o) := fun a u ha => by
  rw [upd_ne (ne_of_none ha h)]
  exact e a u ha
theorem sm_back {H H' : Hp} {p : Addr} (e : Same H H') (h : H' p = none) : H p = none := e.free h

/-! ### data -/
mutual
inductive Tp (H : Hp) : V → PyData → Prop
  | bl (b : Bool) : Tp H (.bl b) (.bool b)
  | int (i : Int) : Tp H (.int i) (.int i)
  | tup {a : Addr} {xs : List V} {ds : List PyData} : H a = some (.tup xs) → TpA H xs ds → Tp H (.ref a) (.tuple ds)
inductive TpA (H : Hp) : List V → List PyData → Prop
  | nil : TpA H [] []
  | cons {v : V} {vs : List V} {d : PyData} {ds : List PyData} : Tp H v d → TpA H vs ds → TpA H (v :: vs) (d :: ds)
end
mutual
theorem Tp.kp {H H' : Hp} (k : Kp H H') : ∀ {v : V} {d : PyData}, Tp H v d → Tp H' v d
  | _, _, .bl b => .bl b
  | _, _, .int i => .int i
  | _, _, .tup h t => .tup (k _ _ h rfl) (TpA.kp k t)
theorem TpA.kp {H H' : Hp} (k : Kp H H') : ∀ {vs : List V} {ds : List PyData}, TpA H vs ds → TpA H' vs ds
  | _, _, .nil => .nil
  | _, _, .cons a b => .cons (Tp.kp k a) (TpA.kp k b)
end
theorem Tp.up {H H' : Hp} {v : V} {d : PyData} (h : Tp H v d) (e : Same H H') : Tp H' v d := h.kp (.of e)
theorem TpA.up {H H' : Hp} {v : List V} {d : List PyData} (h : TpA H v d) (e : Same H H') : TpA H' v d := h.kp (.of e)
mutual
theorem Tp.dp {K : PySem.W.Frag} {H : Hp} : ∀ {v : V} {d : PyData}, Tp H v d → Dp K H v d
  | _, _, .bl b => .bl b
  | _, _, .int i => .int i
  | _, _, .tup h t => .tup (SqT.of h) (TpA.dp t)
theorem TpA.dp {K : PySem.W.Frag} {H : Hp} : ∀ {vs : List V} {ds : List PyData}, TpA H vs ds → DpAll K H vs ds
  | _, _, .nil => .nil
  | _, _, .cons a b => .cons (Tp.dp a) (TpA.dp b)
end
theorem TpA.len {H : Hp} : ∀ {vs : List V} {ds : List PyData}, TpA H vs ds → vs.length = ds.length
  | _, _, .nil => rfl
  | _, _, .cons _ t => by simp [TpA.len t]
theorem TpA.get {H : Hp} : ∀ {vs : List V} {ds : List PyData} {i : Nat} {v : V}, TpA H vs ds → vs[i]? = some v → ∃ d, ds[i]? = some d ∧ Tp H v d
  | _, _, _, _, .nil, e => by simp at e
  | _, _, 0, _, .cons r _, e => by simp at e; subst e; exact ⟨_, rfl, r⟩
  | _, _, i + 1, x, .cons _ t, e => by
    obtain ⟨u, h1, h2⟩ := TpA.get (i := i) (v := x) t (by simpa using e)
    exact ⟨u, by simpa using h1, h2⟩
theorem TpA.getD {H : Hp} {vs : List V} {ds : List PyData} {i : Nat} {d : PyData} (h : TpA H vs ds) (e : ds[i]? = some d) : ∃ v, vs[i]? = some v ∧ Tp H v d := by
  have hl : i < vs.length := by rw [h.len]; exact (List.getElem?_eq_some_iff.mp e).1
  obtain ⟨d', e', t⟩ := h.get (List.getElem?_eq_getElem hl)
  rw [e] at e'
  cases e'
  exact ⟨_, List.getElem?_eq_getElem hl, t⟩
theorem TpA.app {H : Hp} : ∀ {vs ws : List V} {ds es : List PyData}, TpA H vs ds → TpA H ws es → TpA H (vs ++ ws) (ds ++ es)
  | _, _, _, _, .nil, s => s
  | _, _, _, _, .cons r t, s => .cons r (TpA.app t s)
theorem TpA.take {H : Hp} : ∀ {vs : List V} {ds : List PyData} (n : Nat), TpA H vs ds → TpA H (vs.take n) (ds.take n)
  | _, _, 0, _ => .nil
  | _, _, _ + 1, .nil => .nil
  | _, _, n + 1, .cons r t => .cons r (TpA.take n t)
theorem TpA.drop {H : Hp} : ∀ {vs : List V} {ds : List PyData} (n : Nat), TpA H vs ds → TpA H (vs.drop n) (ds.drop n)
  | _, _, 0, r => r
  | _, _, _ + 1, .nil => .nil
  | _, _, n + 1, .cons _ t => TpA.drop n t
theorem TpA.rev {H : Hp} {vs : List V} {ds : List PyData} (h : TpA H vs ds) : TpA H vs.reverse ds.reverse := by
  induction vs generalizing ds with
  | nil => cases h; exact .nil
  | cons v r ih =>
    cases h with
    | cons a b =>
      rw [List.reverse_cons, List.reverse_cons]
      exact (ih b).app (.cons a .nil)
theorem TpA.snoc {H : Hp} {vs : List V} {ds : List PyData} {v : V} {d : PyData} (h : TpA H vs ds) (r : Tp H v d) : TpA H (vs ++ [v]) (ds ++ [d]) := h.app (.cons r .nil)
theorem Tp.ofInt {H : Hp} {v : V} {i : Int} (h : Tp H v (.int i)) : v = .int i := by cases h; rfl
theorem Tp.ofBl {H : Hp} {v : V} {i : Bool} (h : Tp H v (.bool i)) : v = .bl i := by cases h; rfl
theorem Tp.ofTup {H : Hp} {v : V} {ds : List PyData} (h : Tp H v (.tuple ds)) : ∃ a xs, v = .ref a ∧ H a = some (.tup xs) ∧ TpA H xs ds := by
  cases h with
  | tup h t => exact ⟨_, _, rfl, h, t⟩
theorem tpa_ints {H : Hp} : ∀ ns : List Int, TpA H (ns.map V.int) (ns.map PyData.int)
  | [] => .nil
  | n :: r => .cons (.int n) (tpa_ints r)
theorem TpA.ints {H : Hp} : ∀ {ns : List Int} {vs : List V}, TpA H vs (ns.map PyData.int) → vs = ns.map V.int
  | [], _, h => by cases h; rfl
  | n :: r, _, h => by
    have h' : TpA H _ (PyData.int n :: r.map PyData.int) := h
    cases h' with
    | cons a b => rw [a.ofInt, TpA.ints b]; rfl
theorem TpA.bls {H : Hp} : ∀ {ns : List Bool} {vs : List V}, TpA H vs (ns.map PyData.bool) → vs = ns.map V.bl
  | [], _, h => by cases h; rfl
  | n :: r, _, h => by
    have h' : TpA H _ (PyData.bool n :: r.map PyData.bool) := h
    cases h' with
    | cons a b => rw [a.ofBl, TpA.bls b]; rfl
/-- a tuple of ints; a tuple of such; a pair of such and an int -/
def pT (ns : List Int) : PyData := .tuple (ns.map .int)
def pR (rows : List (List Int)) : PyData := .tuple (rows.map pT)
def pP (hl : List Int × Int) : PyData := .tuple [pT hl.1, .int hl.2]
theorem Tp.ofT {H : Hp} {v : V} {ns : List Int} (h : Tp H v (pT ns)) : ∃ a, v = .ref a ∧ H a = some (.tup (ns.map V.int)) := by
  obtain ⟨a, xs, e, h1, t⟩ := h.ofTup
  rw [t.ints] at h1
  exact ⟨a, e, h1⟩
theorem tp_T {H : Hp} {a : Addr} {ns : List Int} (h : H a = some (.tup (ns.map V.int))) : Tp H (.ref a) (pT ns) := .tup h (tpa_ints ns)
theorem Tp.ofP {H : Hp} {v : V} {hl : List Int × Int} (h : Tp H v (pP hl)) : ∃ a b, v = .ref a ∧ H a = some (.tup [.ref b, .int hl.2]) ∧ H b = some (.tup (hl.1.map V.int)) := by
  obtain ⟨a, xs, e, h1, t⟩ := h.ofTup
  cases t with
  | cons t1 t2 =>
    cases t2 with
    | cons t2 t3 =>
      cases t3
      obtain ⟨b, e2, h2⟩ := t1.ofT
      rw [e2, t2.ofInt] at h1
      exact ⟨a, b, e, h1, h2⟩
theorem tp_P {H : Hp} {a b : Addr} {hl : List Int × Int} (h1 : H a = some (.tup [.ref b, .int hl.2])) (h2 : H b = some (.tup (hl.1.map V.int))) : Tp H (.ref a) (pP hl) :=
  .tup h1 (.cons (tp_T h2) (.cons (.int _) .nil))

/-- a list that stands at p, its items data -/
def Ls (H : Hp) (p : Addr) (ds : List PyData) : Prop := ∃ vs, H p = some (.lst vs) ∧ TpA H vs ds
theorem Ls.up {H H' : Hp} {p : Addr} {ds : List PyData} (h : Ls H p ds) (e : Same H H') : Ls H' p ds := let ⟨vs, a, b⟩ := h; ⟨vs, e _ _ a, b.up e⟩
theorem Ls.to {H H' : Hp} {p : Addr} {ds : List PyData} (h : Ls H p ds) (k : Kp H H') (e : H' p = H p) : Ls H' p ds := let ⟨vs, a, b⟩ := h; ⟨vs, e.trans a, b.kp k⟩

/-! ### equality of data -/
mutual
def plain : PyData → Bool
  | .bool _ => false
  | .int _ => true
  | .tuple ds => plainA ds
  | .list ds => plainA ds
  | _ => false
def plainA : List PyData → Bool
  | [] => true
  | d :: ds => plain d && plainA ds
end
mutual
theorem eqv_iff : ∀ (d e : PyData), plain d = true → plain e = true → (PyData.eqv d e = true ↔ d = e)
  | .int i, .int j, _, _ => by simp [PyData.eqv]
  | .tuple ds, .tuple es, h1, h2 => by
    simp only [PyData.eqv, PyData.tuple.injEq]
    exact eqvA_iff ds es (by simpa [plain] using h1) (by simpa [plain] using h2)
  | .list ds, .list es, h1, h2 => by
    simp only [PyData.eqv, PyData.list.injEq]
    exact eqvA_iff ds es (by simpa [plain] using h1) (by simpa [plain] using h2)
  | .int i, .tuple es, _, _ => by simp [PyData.eqv]
  | .int i, .list es, _, _ => by simp [PyData.eqv]
  | .tuple i, .int es, _, _ => by simp [PyData.eqv]
  | .tuple i, .list es, _, _ => by simp [PyData.eqv]
  | .list i, .int es, _, _ => by simp [PyData.eqv]
  | .list i, .tuple es, _, _ => by simp [PyData.eqv]
  | .none, _, h, _ => by simp [plain] at h
  | .bool _, _, h, _ => by simp [plain] at h
  | .str _, _, h, _ => by simp [plain] at h
  | .dict _, _, h, _ => by simp [plain] at h
  | _, .none, _, h => by simp [plain] at h
  | _, .bool _, _, h => by simp [plain] at h
  | _, .str _, _, h => by simp [plain] at h
  | _, .dict _, _, h => by simp [plain] at h
theorem eqvA_iff : ∀ (ds es : List PyData), plainA ds = true → plainA es = true → (PyData.eqvAll ds es = true ↔ ds = es)
  | [], [], _, _ => by simp [PyData.eqvAll]
  | [], _ :: _, _, _ => by simp [PyData.eqvAll]
  | _ :: _, [], _, _ => by simp [PyData.eqvAll]
  | d :: ds, e :: es, h1, h2 => by
    simp only [plainA, Bool.and_eq_true] at h1 h2
    simp only [PyData.eqvAll, Bool.and_eq_true, eqv_iff d e h1.1 h2.1, eqvA_iff ds es h1.2 h2.2, List.cons.injEq]
end
end WS
/-! WsB1: t[::-1] of a tuple, sum of a tuple. -/
namespace WS
open PySem PySem.Spec PyProof.Rows L2

section
variable {prog : Program} {w : World} {A : Around} {E : Value → Shared → Prop} {s : Shared}
theorem sliceApplied_back {sl : Addr} {vs : Value} {n : Nat} {Q : Int × Int × Nat → Shared → Prop} (hs : s.heap.IsSliceOf sl .none .none vs) (ps : IsPart vs (some (-1)))
    (h : Q ((n : Int) - 1, -1, n) s) : wpAny (model prog w) A (Builtin.Slice.sliceApplied (.ref sl) (pure (n : Int))) Q E s := by
  obtain ⟨os, hos, hcs, hds⟩ := id hs
  unfold Builtin.Slice.sliceApplied Builtin.Slice.sliceFields
  refine wpAny_bind (wpAny_bind (wpAny_field hos hds (x := .none) rfl ?_))
  refine wpAny_bind (wpAny_field hos hds (x := .none) rfl ?_)
  refine wpAny_bind (wpAny_field hos hds (x := vs) rfl (wpAny_pure ?_))
  refine wpAny_bind (HT.slicePart_ ps ?_)
  show wpAny _ _ (if ((-1 : Int) == 0) = true then _ else _) _ _ s
  rw [if_neg (by decide)]
  refine wpAny_bind (HT.slicePart_ .none ?_)
  refine wpAny_bind (HT.slicePart_ .none ?_)
  refine wpAny_bind (wpAny_pure ?_)
  have e1 : Builtin.Slice.sliceAdjust Option.none Option.none (-1) (n : Int) = ((n : Int) - 1, -1) := by
    unfold Builtin.Slice.sliceAdjust
    first | rfl | simp
  have e2 : Builtin.Slice.slicePlaces ((n : Int) - 1) (-1) (-1) = n := by
    unfold Builtin.Slice.slicePlaces
    have h0 : ¬ ((-1 : Int) > 0) := by decide
    by_cases hn : (n : Int) - 1 > -1
    · rw [if_neg h0, if_pos hn, show (- -1 : Int) = 1 by decide, Int.ediv_one]
      omega
    · rw [if_neg h0, if_neg hn]
      omega
  show wpAny _ _ (match Builtin.Slice.sliceAdjust Option.none Option.none (-1) (n : Int) with | (lo, hi) => pure (lo, (-1 : Int), Builtin.Slice.slicePlaces lo hi (-1))) _ _ s
  rw [e1]
  show wpAny _ _ (pure ((n : Int) - 1, (-1 : Int), Builtin.Slice.slicePlaces ((n : Int) - 1) (-1) (-1))) _ _ s
  rw [e2]
  exact wpAny_pure h
theorem pick_back (xs : Array Value) : ((List.range xs.size).filterMap fun (k : Nat) => xs[(((xs.size : Int) - 1) + (k : Int) * (-1)).toNat]?).toArray = xs.toList.reverse.toArray := by
  have e : (List.range xs.size).filterMap (fun (k : Nat) => xs[(((xs.size : Int) - 1) + (k : Int) * (-1)).toNat]?) = ((List.range xs.size).map fun k => xs.size - 1 - k).filterMap (xs[·]?) := by
    rw [List.filterMap_map]
    congr 1
    funext k
    show _ = xs[xs.size - 1 - k]?
    congr 1
    omega
  rw [e, PySem.W.krv_range, List.filterMap_reverse, PySem.W.krv_all]
theorem getItem_tuple_back {t sl : Addr} {items : Array Value} {vs : Value} {Q : Value → Shared → Prop} (ht : IsTup s.heap t items) (hs : s.heap.IsSliceOf sl .none .none vs) (ps : IsPart vs (some (-1)))
    (hsz : items.size ≤ sizeLine) (h : Q (.ref s.heap.objs.size) { s with heap := s.heap.push { cls := .type "tuple", data := .seq items.toList.reverse.toArray } }) :
    wpAny (model prog w) A (getItem (.ref t) (.ref sl)) Q E s := by
  have hz : sizeOk (.seq items.toList.reverse.toArray) := by
    show items.toList.reverse.toArray.size ≤ sizeLine
    rw [List.size_toArray, List.length_reverse, Array.length_toList]
    exact hsz
  obtain ⟨os, hos, hcs, hds⟩ := id hs
  have hT : s.TypeIs (.ref sl) "slice" := ⟨os, hos, hcs⟩
  unfold getItem
  try with_reducible refine wpAny_holding ?_
  first | refine wpAny_bind (wpAny_pure ?_) | skip
  refine wpAny_bind (wpAny_sequenceKey ht.typeIs (by decide) ?_)
  have sl1 := PyProof.Rows.slot_tuple_getitem
  refine wpAny_bind (wpAny_callSpecial?_slot (name := Str.ofString "__getitem__") ht.typeIs sl1
    (wpAny_call_entry sl1 ht.typeIs entry_tuple_getitem ?_ (args_tuple_getitem _ _)))
  show wpAny _ _ (Builtin.Tuple.tupleItemsOf (.ref t) >>= _) _ _ s
  refine wpAny_bind (PyProof.Rows.tupleItemsOf_ ht ?_)
  refine wpAny_bind (wpAny_typeOf hT ?_)
  rw [if_pos (by decide)]
  refine wpAny_bind (sliceApplied_back hs ps ?_)
  show wpAny _ _ (if (((items.size : Int) - 1) == 0 && (-1 : Int) == 1 && items.size == items.size) = true then _ else _) _ _ s
  rw [if_neg (by simp), pick_back]
  first
    | exact wpAny_bind (m := Builtin.Tuple.tupleExact _) (wpAny_newObj_type (wpAny_pure ⟨_, rfl, wpAny_pure h⟩) hz)
    | exact wpAny_bind (m := Builtin.Tuple.tupleExact _) (wpAny_newObj_type (wpAny_bind (wpAny_pure (wpAny_pure ⟨_, rfl, wpAny_pure h⟩))) hz)
    | exact wpAny_bind (wpAny_bind (m := Builtin.Tuple.tupleExact _) (wpAny_newObj_type (wpAny_pure (wpAny_pure ⟨_, rfl, wpAny_pure h⟩)) hz))
    | exact wpAny_bind (wpAny_bind (m := Builtin.Tuple.tupleExact _) (wpAny_newObj_type (wpAny_pure ⟨_, rfl, wpAny_pure h⟩) hz))
end
section
variable {X : Cx}
def tRevT (K : PySem.W.Frag) (te : TE) : TE := fun σ H Q => te σ H fun x H1 => ∃ a xs, x = .ref a ∧ SqT K H1 a xs ∧ ∀ p, H1 p = none → Q (.ref p) (upd H1 p (.tup xs.reverse))
theorem pe_revT {e : Expr} {te : TE} {k : Nat} {p1 p2 p3 pos : Pos} (he : PE X e te) : PE X (.Subscript e (.Slice none none (some (.UnaryOp .USub (.Constant (.int 1) k p1) p2)) p3) pos) (tRevT X.K te) := by
  refine ⟨fun pins s σ H Q I h => ?_⟩
  refine Subscript_ (thn (he.run pins s σ H _ I h) fun v s1 ⟨x, H1, I1, r1, q1⟩ => ?_)
  obtain ⟨a, xs, ex, hx, q⟩ := q1
  subst ex
  cases r1
  have hst : PO X (some (.UnaryOp .USub (.Constant (.int 1) k p1) p2)) (tPart (tUn (rU fun i => .int (-i)) (tC (.int 1)))) := po_some (pe_un un_neg pe_int)
  refine wpAny_Slice (thn (po_none.run pins s1 σ H1 (fun o H2 => o = none ∧ H2 = H1) I1 ⟨rfl, rfl⟩) fun vl s2 ⟨l, H2, I2, pl, el, e2⟩ => ?_)
  subst el e2
  refine thn (po_none.run pins s2 σ H2 (fun o H3 => o = none ∧ H3 = H2) I2 ⟨rfl, rfl⟩) fun vu s3 ⟨u, H3, I3, pu, eu, e3⟩ => ?_
  subst eu e3
  refine thn (hst.run pins s3 σ H3 (fun o H4 => o = some (-1) ∧ H4 = H3) I3 ⟨1, rfl, -1, rfl, rfl, rfl⟩) fun vs s4 ⟨o, H4, I4, ps, eo, e4⟩ => ?_
  subst eo e4
  have I5 : Inv X pins σ H4 { s4 with heap := s4.heap.push { cls := .type "slice", data := .fields #[vl, vu, vs] } } := I4.kept (t' := s4.toks) fun b ob q => Heap.get?_push_of_some _ q
  obtain ⟨its, r, ht, hz⟩ := I5.tuple hx
  cases pl
  cases pu
  have hl := r.length
  show wpAny (model X.prog X.w) X.A (subscriptTail e (.Slice none none (some (.UnaryOp .USub (.Constant (.int 1) k p1) p2)) p3) (.ref a) (.ref s4.heap.objs.size)) (EP X pins σ Q) X.xe { s4 with heap := s4.heap.push { cls := .type "slice", data := .fields #[.none, .none, vs] } }
  refine tail_any (ops := [.ref a, .ref s4.heap.objs.size]) ht.typeIs (PyProof.Rows.slot_tuple_getitem.lookup) ?_ (by with_unfolding_all rfl)
  refine getItem_tuple_back ht (Heap.IsSliceOf.new _ .none .none vs) ps (by rw [List.size_toArray]; omega) ?_
  refine ⟨.ref _, _, I5.laid (t' := s4.toks) (o := .tup xs.reverse) (fun b ob q => Heap.get?_push_of_some _ q) (Nat.le_refl _) ?_, rfl, q _ (I5.hok.fresh (Nat.le_refl _))⟩
  exact ⟨by rw [List.length_reverse]; exact hz, _, r.reverse, IsTup.new _ _⟩
/-- sum(t) of a tuple of ints -/
def rSumT (K : PySem.W.Frag) : List V → Hp → VK → Prop := fun vs H Q => ∃ (a : Addr) (ns : List Int), vs = [V.ref a] ∧ SqT K H a (ns.map V.int) ∧ Q (.int ns.sum) H
theorem cr_sumT (hc : X.calm = true) : CallR X (.builtin "sum") (rSumT X.K) := by
  intro pins s σ H vs us Q I r h
  obtain ⟨a, ns, rfl, hS, q⟩ := h
  obtain ⟨u, rfl, ru⟩ := vals1 r
  cases ru
  obtain ⟨its, rv, ht, hz⟩ := I.tuple hS
  have hi : IntsAre its ns := intsAre_of rv
  obtain ⟨xs, hx⟩ := hi.allInts.items
  have hn : numsOf its.toArray.toList = ns := by rw [show its.toArray.toList = its from rfl, hi.numsOf]
  have hl : s.heap.IsTuple a its.toArray := ht
  rw [hx] at hl hn
  rw [nums_intItems] at hn
  refine PySem.W.ktm_sumG (I.ok.hd hc) hl fun h' tk t' hk => ?_
  refine ⟨.int ns.sum, H, I.kept (t' := tk) hk, ⟨t', ?_⟩, q⟩
  rw [preSum_eq, List.take_of_length_le (by simp), hn]
end
end WS
/-! WsB2: enumerate of a tuple; d.items() and {t: v} where the keys are tuples. -/
namespace PySem
open Sem (wp)
open AutoSeq1 (wpAny_loadPart')
abbrev wsTupIt (l : Addr) : Obj := { cls := .type "tuple_iterator", data := .fields #[.ref l, .int 0 0] }
abbrev wsEnum (h : Heap) (l : Addr) : Heap := (h.push (wsTupIt l)).push { cls := .type "enumerate", data := .fields #[.none, .bool false, .ref h.objs.size, rawInt 0, .none, .none] }
theorem ws_meets_enum (l : Addr) (items : Array Value) :
    Meets (Builtin.«enumerate.__new__» ⟨[.type "enumerate", .ref l], []⟩) (fun _ R s => s.heap.IsTuple l items ∧
      R (.ok (.ret (.ref (s.heap.push (wsTupIt l)).objs.size))) { s with heap := wsEnum s.heap l }) :=
  .of_wp fun prog w A R s h => by
    obtain ⟨hp, g, d, tk, os⟩ := s
    obtain ⟨hL, h⟩ := h
    obtain ⟨⟨cl, dct, dt, sl⟩, hl, hc, n, hd⟩ := id hL
    simp only at hc hd
    subst hc hd
    have hsub := sub_enumerate
    have it : ∀ {A' : Around} {E : Value → Shared → Prop} {Q : Value → Shared → Prop}, Q (.ref hp.objs.size) ⟨hp.push (wsTupIt l), g, d, tk, os⟩ → wpAny (model prog w) A' (pyIter (.ref l)) Q E ⟨hp, g, d, tk, os⟩ :=
      fun q => wpAny_pyIter_tuple (s := ⟨hp, g, d, tk, os⟩) hL q
    wp_walk using wpAny_loadPart' hl, it
    refine wpAny_stack_any fun st => wpAny_pure ?_
    split
    · rename_i c _ _ _ _ _
      cases (c == Value.type "enumerate") <;> (wp_walk using wpAny_loadPart' hl, it; exact ⟨_, rfl, h⟩)
    · wp_walk using wpAny_loadPart' hl, it
      exact ⟨_, rfl, h⟩
theorem ws_call_enum {prog : Program} {w : World} {A : Around} {E : Value → Shared → Prop} {s : Shared} {l : Addr} {items : Array Value} {Q : Value → Shared → Prop} (hL : s.heap.IsTuple l items)
    (h : IsEnum (wsEnum s.heap l) (s.heap.objs.size + 1) s.heap.objs.size 0 .none → (wsEnum s.heap l).IsTupleIter s.heap.objs.size l 0 → Q (.ref (s.heap.objs.size + 1)) { s with heap := wsEnum s.heap l }) :
    wpAny (model prog w) A (call (.type "enumerate") [.ref l]) Q E s := by
  refine callType_new F.called_enumerate (by decide) (F.typeCall_enumerate_1 _) (F.newCall_enumerate_1 _) (fun obj => F.args_object_init_2 obj _) F.entry_enumerate_new
    (ws_meets_enum l items) ⟨hL, ?_⟩
  have hz : (s.heap.push (wsTupIt l)).objs.size = s.heap.objs.size + 1 := Heap.size_push ..
  have he := Heap.get?_push_size (s.heap.push (wsTupIt l)) (o := { cls := .type "enumerate", data := .fields #[.none, .bool false, .ref s.heap.objs.size, rawInt 0, .none, .none] }) rfl
  show _ ∧ _
  rw [hz] at he ⊢
  exact ⟨⟨_, he, rfl⟩, h he ⟨_, Heap.get?_push_of_some _ (Heap.get?_push_size _ rfl), rfl, rfl⟩⟩
end PySem
namespace WS
open PySem PySem.Spec PyProof.Rows L2

/-! ### enumerate(t) -/
def IteT (K : PySem.W.Frag) (a : Addr) : It where
  go := fun i H => ∃ (xs : List V) (x : V), SqT K H a xs ∧ xs[i]? = some x
  yld := fun i H v H' => ∃ T x, v = .ref T ∧ H T = none ∧ H' = upd H T (.tup [.int (i : Nat), x]) ∧ ∀ xs, SqT K H a xs → xs[i]? = some x
  stop := fun i H => ∃ xs : List V, SqT K H a xs ∧ xs.length = i
theorem turn_enumT {P : Program} {w : World} {K : PySem.W.Frag} {elts : List Expr} {kk : Nat} {tpos : Pos} (a e it : Addr) :
    Turn P w K (.Tuple elts kk tpos) (IteT K a) [e, it] e (fun i h => (∃ old, IsEnum h e it ((0 : Int) + ((i : Nat) : Int)) old) ∧ h.IsTupleIter it a i ∧ e ≠ it) where
  mem := by simp
  obj := fun i h st b hb => by
    obtain ⟨⟨old, he⟩, ⟨o, ho, hc, hd⟩, _⟩ := st
    rcases (show b = e ∨ b = it by simpa using hb) with z | z
    · subst z; exact ⟨_, he, fun v q => nomatch q⟩
    · subst z; exact ⟨o, ho, fun v q => by rw [hd] at q; cases q⟩
  keep := fun i h h' st k => ⟨⟨st.1.choose, k e (by simp) _ st.1.choose_spec⟩, st.2.1.at fun o q => k it (by simp) o q, st.2.2⟩
  item := by
    intro X hP hw hK hc i pins s σ H E I hf st hg
    subst hP hw hK
    obtain ⟨he, hit, hne⟩ := st
    obtain ⟨xs, x, hq, hx⟩ := hg
    obtain ⟨its, rv, p, hz⟩ := I.tuple hq
    obtain ⟨u, hu, ru⟩ := rv.get hx
    have hlt : i < its.toArray.size := by rw [List.size_toArray]; exact (List.getElem?_eq_some_iff.mp hu).1
    have pt : s.heap.IsTuple a its.toArray := p
    have hel : e < s.heap.objs.size := let ⟨_, z⟩ := he; Heap.lt_size z
    have hil : it < s.heap.objs.size := let ⟨_, q, _⟩ := hit; Heap.lt_size q
    have hai : a ≠ it := fun z => by
      obtain ⟨o1, e1, c1, _⟩ := pt
      obtain ⟨o2, e2, c2, _⟩ := hit
      rw [z, e2] at e1; cases e1
      rw [c2] at c1
      injection c1 with c1
      exact absurd c1 (by decide)
    have hae : a ≠ e := fun z => by
      obtain ⟨o1, e1, c1, _⟩ := pt
      obtain ⟨old, e2⟩ := he
      rw [z, show s.heap.get? e = some _ from e2] at e1; cases e1
      injection c1 with c1
      exact absurd c1 (by decide)
    have D := Draws.tuple (prog := X.prog) (w := X.w) (A := X.A.in1) (I.ok.hd hc) it a hai its.toArray
    have W := GoesN.enumFrom (elts := elts) (x1 := kk) (pos := tpos) 0 D e hne (by simp [hne, hae.symm]) (by simp)
    refine thn (W.goes i s (fun v s2 => ∃ x H', Inv X pins σ H' s2 ∧ RelV x v ∧ (IteT X.K a).yld i H x H' ∧ ((∃ old, IsEnum s2.heap e it ((0 : Int) + ((i + 1 : Nat) : Int)) old) ∧ s2.heap.IsTupleIter it a (i + 1) ∧ e ≠ it) ∧ ∀ b ∈ [e, it], H' b = none) E hlt ⟨he, hit, pt⟩ ?_) fun r s1 ⟨v, e1, h1⟩ => ⟨v, e1, h1⟩
    intro v h' tk ⟨T, t, y, ev, hT, hy, htup⟩ st' hk _
    rw [show its.toArray[i]? = some u by simpa using hu] at hy
    cases hy
    have new : ObjOk X.prog X.w (upd H T (.tup [.int (i : Nat), x])) h' T (.tup [.int (i : Nat), x]) :=
      ⟨by show 2 ≤ sizeLine; decide, [.int ((0 : Int) + (i : Int)) t, u], .cons ⟨t, by rw [Int.zero_add]⟩ (.cons ru .nil), htup⟩
    have I1 : Inv X pins σ (upd H T (.tup [.int (i : Nat), x])) { s with heap := h', toks := tk } :=
      I.turnedNew (ch := [e, it]) (fun b ob hb q => hk b ob hb q) hf hT new
    subst ev
    refine ⟨.ref T, _, I1, rfl, ⟨T, x, rfl, I.hok.fresh hT, rfl, fun ys hy => by rw [I.tuple_inj hy hq]; exact hx⟩, ⟨st'.1, st'.2.1, hne⟩, fun b hb => ?_⟩
    have hb' : b < s.heap.objs.size := by
      rcases (show b = e ∨ b = it by simpa using hb) with z | z
      · rw [z]; exact hel
      · rw [z]; exact hil
    rw [upd_ne (Nat.ne_of_lt (Nat.lt_of_lt_of_le hb' hT))]
    exact (hf b hb).1
  done := by
    intro X hP hw hK hc i pins s σ H E I hf st hg
    subst hP hw hK
    obtain ⟨he, hit, hne⟩ := st
    obtain ⟨xs, hq, hx⟩ := hg
    obtain ⟨its, rv, p, hz⟩ := I.tuple hq
    have pt : s.heap.IsTuple a its.toArray := p
    have hlt : its.toArray.size = i := by rw [List.size_toArray, ← rv.length]; exact hx
    have hai : a ≠ it := fun z => by
      obtain ⟨o1, e1, c1, _⟩ := pt
      obtain ⟨o2, e2, c2, _⟩ := hit
      rw [z, e2] at e1; cases e1
      rw [c2] at c1
      injection c1 with c1
      exact absurd c1 (by decide)
    have hae : a ≠ e := fun z => by
      obtain ⟨o1, e1, c1, _⟩ := pt
      obtain ⟨old, e2⟩ := he
      rw [z, show s.heap.get? e = some _ from e2] at e1; cases e1
      injection c1 with c1
      exact absurd c1 (by decide)
    have D := Draws.tuple (prog := X.prog) (w := X.w) (A := X.A.in1) (I.ok.hd hc) it a hai its.toArray
    have W := GoesN.enumFrom (elts := elts) (x1 := kk) (pos := tpos) 0 D e hne (by simp [hne, hae.symm]) (by simp)
    rw [hlt] at W
    exact W.stops s (fun s1 => Inv X pins σ H s1) E ⟨he, hit, pt⟩ fun h' tk hk _ => I.turnedL (ch := [e, it]) (fun b ob hb q => hk b ob hb q) hf
  self := fun A i s Q E st h => let ⟨⟨_, he⟩, _⟩ := st; wpAny_pyIter_enum he h
def iEnumT (K : PySem.W.Frag) (ta : TA) : TI := fun σ H R => ta σ H fun vs H1 => ∃ a xs, vs = [.ref a] ∧ SqT K H1 a xs ∧ R (IteT K a) H1
theorem pi_enumT {X : Cx} {e : Expr} {ta : TA} {p pos tpos : Pos} {elts : List Expr} {kk : Nat} (hg : Gl X "enumerate") (hm : X.mg "enumerate" = none) (ha : PA X [e] ta) (hs : starEach [e] X.env = [(false, eval e X.env)] := by rfl) :
    PI X (.Tuple elts kk tpos) (.Call (.Name "enumerate" p) [e] [] pos) (iEnumT X.K ta) := by
  refine ⟨fun pins s σ H R I h => ?_⟩
  refine Call_ (ld_blt I hg hm boot_enumerate (PyProof.Rows.callWith_type1 (thn (ha.run pos pins s σ H _ I h) fun us s1 ⟨vs, H1, I1, r1, q1⟩ => ?_) hs rfl))
  obtain ⟨a, xs, ex, hq, q⟩ := q1
  subst ex
  obtain rfl := r1.ref1
  obtain ⟨its, rv, p', hz⟩ := I1.tuple hq
  refine ws_call_enum (show s1.heap.IsTuple a its.toArray from p') fun he hit => wpAny_pyIter_enum he ?_
  have hk : ∀ b o, s1.heap.get? b = some o → (wsEnum s1.heap a).get? b = some o := fun b o e => Heap.get?_push_of_some _ (Heap.get?_push_of_some _ e)
  have I2 : Inv X pins σ H1 { s1 with heap := wsEnum s1.heap a } := I1.kept (t' := s1.toks) hk
  refine ⟨s1.heap.objs.size + 1, [s1.heap.objs.size + 1, s1.heap.objs.size], _, _, H1, rfl, I2, turn_enumT a (s1.heap.objs.size + 1) s1.heap.objs.size, ⟨⟨.none, he⟩, hit, Nat.succ_ne_self _⟩, fun b hb => ?_, q⟩
  have hle : s1.heap.objs.size ≤ b := by
    rcases (show b = s1.heap.objs.size + 1 ∨ b = s1.heap.objs.size by simpa using hb) with z | z
    · rw [z]; exact Nat.le_add_right _ _
    · exact Nat.le_of_eq z.symm
  exact I1.fpOk hle (I1.hok.fresh hle)
/-- a tuple's items, numbered -/
theorem walk_enumT {K : PySem.W.Frag} {a : Addr} {xs : List V} : Walk (IteT K a) xs.length (fun H => SqT K H a xs) (YPair (fun i => some (.int (i : Nat))) (fun i => xs[i]?)) where
  goes := fun i _ hi q => ⟨xs, xs[i], q, by simp [hi]⟩
  stops := fun _ q => ⟨xs, q, rfl⟩
  yields := fun i H v H' _ q y => by
    obtain ⟨T, x, h1, h2, h3, h4⟩ := y
    exact ⟨T, .int (i : Nat), x, h1, h2, h3, rfl, h4 xs q⟩
end WS
/-! WsB3: d.items() and {t: v} where the keys are tuples. -/
namespace WS
open PySem PySem.Spec PyProof.Rows L2

/-- the pairs of a locked dict with tuple keys, each a new tuple of the key's own tuple and the value -/
def ItiT (d : Addr) (o : Obj) (kvs : List (List Key × V)) : It where
  go := fun i H => H d = some (.frz o (.dT kvs)) ∧ i < kvs.length
  yld := fun i H x H' => ∃ T k v q, kvs[i]? = some (k, v) ∧ x = .ref T ∧ H T = none ∧ H' = upd H T (.tup [.ref q, v]) ∧ H q = some (.tup (k.map kV))
  stop := fun i H => H d = some (.frz o (.dT kvs)) ∧ kvs.length = i
section
variable {X : Cx} {pins : List (Addr × Obj)} {σ : L2.St} {H : Hp} {s : Shared} {d : Addr} {o : Obj}
theorem frz_all {kvs : List (List Key × V)} (I : Inv X pins σ H s) (h : H d = some (.frz o (.dT kvs))) :
    (d == sysModules) = false ∧ s.heap.get? d = some o ∧ o.ExactDict ∧ ∃ (es : Array DictEntry) (ep : Nat), o.data = .dict es ep ∧ es.size = kvs.length ∧
      ∀ (i : Nat) (k : List Key) (v : V), kvs[i]? = some (k, v) → ∃ (en : DictEntry) (q : Addr), es[i]? = some en ∧ en.key = .ref q ∧ H q = some (.tup (k.map kV)) ∧ RelV v en.val := by
  obtain ⟨hd, z, hs, xs, pr, o', es, ep, ho, hx, hdt, he, _⟩ := I.hok d _ h
  rw [hd] at ho
  cases ho
  have l1 : es.size = xs.length := size_of_entries he
  have l2 : kvs.length = xs.length := Paired.length pr
  refine ⟨hs, hd, hx, es, ep, hdt, by omega, fun i k v e => ?_⟩
  obtain ⟨b, hb, e1, e2, e3⟩ := paired_get pr e
  have q := entry_at he i
  rw [hb] at q
  exact ⟨_, b.2.1, q, rfl, e2, e3⟩
end
theorem turn_itemsT {P : Program} {w : World} {K : PySem.W.Frag} {d : Addr} {o : Obj} {es : Array DictEntry} {ep : Nat} {kvs : List (List Key × V)} {elts : List Expr} {kk : Nat} {tpos : Pos} (it : Addr) (hod : o.data = .dict es ep) :
    Turn P w K (.Tuple elts kk tpos) (ItiT d o kvs) [it] it (fun i h => ∃ ok ov, IsItemIter h it d i kvs.length ep ok ov) where
  mem := by simp
  obj := fun i h st b hb => by
    obtain rfl : b = it := by simpa using hb
    obtain ⟨ok, ov, e⟩ := st
    exact ⟨_, e, fun v z => nomatch z⟩
  keep := fun i h h' ⟨ok, ov, e⟩ k => ⟨ok, ov, k it (by simp) _ e⟩
  item := by
    intro X hP hw hK hc i pins s σ H E I hf st hg
    subst hP hw hK
    obtain ⟨hd, hi⟩ := hg
    obtain ⟨hs, hgd, hx, es', ep', hdt, hsz, ent⟩ := frz_all I hd
    obtain ⟨rfl, rfl⟩ := dict_ep hod hdt
    have hkv : kvs[i]? = some (kvs[i].1, kvs[i].2) := List.getElem?_eq_getElem hi
    obtain ⟨en, q, hen, hkey, hq, hval⟩ := ent i _ _ hkv
    have hlt : it < s.heap.objs.size := let ⟨_, _, e⟩ := st; Heap.lt_size e
    have hdi : d ≠ it := fun z => by
      have := (hf it (by simp)).1
      rw [← z, hd] at this
      cases this
    have W := GoesN.rawItems (prog := X.prog) (w := X.w) (A := X.A) (elts := elts) (x1 := kk) (pos := tpos) (I.ok.hd hc) it d hdi es' ep'
    rw [← hsz] at st
    have hie : i < es'.size := by omega
    refine thn (W.goes i s (fun v s2 => ∃ x H', Inv X pins σ H' s2 ∧ RelV x v ∧ (ItiT d o kvs).yld i H x H' ∧ (∃ ok ov, IsItemIter s2.heap it d (i + 1) kvs.length ep' ok ov) ∧ ∀ b ∈ [it], H' b = none) E hie ⟨st, o, hgd, hx, hdt⟩ ?_) fun r s1 ⟨v, e1, h1⟩ => ⟨v, e1, h1⟩
    intro v h' tk ⟨T, hi', ev, hT, htup⟩ st' hk _
    have een : es'[i] = en := by
      rw [Array.getElem?_eq_getElem hie] at hen
      exact Option.some.inj hen
    have new : ObjOk X.prog X.w (upd H T (.tup [.ref q, kvs[i].2])) h' T (.tup [.ref q, kvs[i].2]) :=
      ⟨by show 2 ≤ sizeLine; decide, [es'[i].key, es'[i].val], .cons (show es'[i].key = .ref q by rw [een, hkey]) (.cons (by rw [een]; exact hval) .nil), htup⟩
    have I1 : Inv X pins σ (upd H T (.tup [.ref q, kvs[i].2])) { s with heap := h', toks := tk } :=
      I.turnedNew (ch := [it]) (fun b ob hb q => hk b ob hb q) hf hT new
    subst ev
    refine ⟨.ref T, _, I1, rfl, ⟨T, _, _, q, hkv, rfl, I.hok.fresh hT, rfl, hq⟩, ?_, fun b hb => ?_⟩
    · rw [← hsz]
      exact st'.1
    · obtain rfl : b = it := by simpa using hb
      rw [upd_ne (Nat.ne_of_lt (Nat.lt_of_lt_of_le hlt hT))]
      exact (hf b hb).1
  done := by
    intro X hP hw hK hc i pins s σ H E I hf st hg
    subst hP hw hK
    obtain ⟨hd, hi⟩ := hg
    obtain ⟨hs, hgd, hx, es', ep', hdt, hsz, ent⟩ := frz_all I hd
    obtain ⟨rfl, rfl⟩ := dict_ep hod hdt
    have hdi : d ≠ it := fun z => by
      have := (hf it (by simp)).1
      rw [← z, hd] at this
      cases this
    have W := GoesN.rawItems (prog := X.prog) (w := X.w) (A := X.A) (elts := elts) (x1 := kk) (pos := tpos) (I.ok.hd hc) it d hdi es' ep'
    rw [← hsz] at st
    rw [← hi, ← hsz] at st
    exact W.stops s (fun s1 => Inv X pins σ H s1) E ⟨st, o, hgd, hx, hdt⟩ fun h' tk hk _ => I.turnedL (ch := [it]) (fun b ob hb q => hk b ob hb q) hf
  self := fun A i s Q E ⟨_, _, e⟩ h => PySem.W.kcp_self e h
def iItemsT (td : TE) : TI := fun σ H R => td σ H fun x H1 => ∃ d o kvs, x = .ref d ∧ H1 d = some (.frz o (.dT kvs)) ∧ R (ItiT d o kvs) H1
theorem pi_itemsT {X : Cx} {e : Expr} {td : TE} {apos cpos tpos : Pos} {elts : List Expr} {kk : Nat} (he : PE X e td) (hb : attributeBase e "items" X.env (eval e X.env) = eval e X.env := by rfl) (hln : (apos.endLine == cpos.line) = true := by rfl) :
    PI X (.Tuple elts kk tpos) (.Call (.Attribute e "items" apos) [] [] cpos) (iItemsT td) := by
  refine ⟨fun pins s σ H R I h => ?_⟩
  refine wpAny_Call_method (T := "dict") (id := "dict.items") hb rfl hln F.plainAttrs_dict F.slot_dict_items F.type_dict_items (thn (he.run pins s σ H _ I h) fun u s1 ⟨x, H1, I1, rx, d, o, kvs, ex, hd, q⟩ => ?_)
  subst ex
  obtain rfl : u = Value.ref d := rx
  obtain ⟨hs, hgd, hx, es, ep, hdt, hsz, ent⟩ := frz_all I1 hd
  have hm : s1.heap.DictRaw d es ep := ⟨o, hgd, hx, hdt⟩
  refine ⟨hm.typeIs, fun b eb => ⟨o, by cases eb; exact hgd, hx.2.1⟩, ?_⟩
  have I2 : Inv X pins σ H1 { s1 with heap := s1.heap.push { cls := .type "dict_items", data := .fields #[.ref d] } } := I1.kept (t' := s1.toks) fun b ob z => Heap.get?_push_of_some _ z
  have fin : wpAny (model X.prog X.w) X.A (pyIter (.ref s1.heap.objs.size)) (PIE X pins σ (.Tuple elts kk tpos) R) X.xe { s1 with heap := s1.heap.push { cls := .type "dict_items", data := .fields #[.ref d] } } := by
    refine wpAny_pyIter_items_raw (d := d) (es := es) (ep := ep) ⟨_, Heap.get?_push_size _ rfl, rfl, rfl⟩ (hm.at fun o' z => Heap.get?_push_of_some _ z) (pi_one (tk := s1.toks) I2 _ (turn_itemsT _ hdt) ⟨.none, .none, ?_⟩ q)
    rw [← hsz]
    exact Heap.get?_push_size _ rfl
  show wpAny _ _ (callWith cpos (.builtin "dict.items") [.ref d] [] []) _ X.xe s1
  exact method_meetsIn F.slot_dict_items F.entry_dict_items rfl (PySem.evalArgs_none ⟨rfl, hm.typeIs, F.args_dict_items_1 _, _, meets_dict_items_raw d hs, ⟨⟨es, ep, hm⟩, fin⟩⟩)
theorem walk_itemsT {d : Addr} {o : Obj} {kvs : List (List Key × V)} : Walk (ItiT d o kvs) kvs.length (fun H => H d = some (.frz o (.dT kvs)))
    (fun i H x H' => ∃ T k v q, kvs[i]? = some (k, v) ∧ x = .ref T ∧ H T = none ∧ H' = upd H T (.tup [.ref q, v]) ∧ H q = some (.tup (k.map kV))) where
  goes := fun i _ hi q => ⟨q, hi⟩
  stops := fun _ q => ⟨q, rfl⟩
  yields := fun i H v H' _ q y => y
/-- {t: v}, t a tracked tuple -/
def tDispT (tk tv : TE) : TE := fun σ H Q => ∀ p, H p = none → tk σ (upd H p (.dT [])) fun x H1 => tv σ H1 fun y H2 => H2 p = some (.dT []) ∧ ∃ (a : Addr) (k : List Key), x = .ref a ∧ H2 a = some (.tup (k.map kV)) ∧ Q (.ref p) (upd H2 p (.dT [(k, y)]))
theorem pe_dispT {X : Cx} {k v : Expr} {tk tv : TE} {pos : Pos} (hu : X.A.units + 1 < cLine) (hk : PE X k tk) (hv : PE X v tv) : PE X (.Dict [some k] [v] pos) (tDispT tk tv) := by
  refine ⟨fun pins s σ H Q I q => ?_⟩
  have hn := I.hok.fresh (Nat.le_refl s.heap.objs.size)
  have I1 := I.laid (a := s.heap.objs.size) (o := .dT []) (h' := s.heap.push { cls := .type "dict", data := .dict #[] }) (t' := s.toks) (fun _ _ z => Heap.get?_push_of_some _ z) (Nat.le_refl _) (dt_empty s.heap I.big)
  have P := pps_cons (pos := pos) hk hv pps_nil
  rw [arm_eval_Dict, zip_pairTrees [some k] [v] X.env pos rfl rfl, dictDisplay_pairs (pairTrees [some k] [v] X.env pos) (by simp [pairTrees]) (by simp [pairTrees])]
  refine wpAny_bind (wpAny_standAt (wpAny_bind ?_))
  refine wpAny_subDictH (knd := tupleKind (mixKind X.prog X.w)) (Q := fun d s' => wpAny (model X.prog X.w) X.A (pure (Value.ref d)) (EP X pins σ Q) X.xe s') (show X.A.units < cLine by omega) (by simp [pairTrees]) ?_
  refine thn (P.run pins _ σ _ (fun ps H2 => match ps with
    | [(x, y)] => H2 s.heap.objs.size = some (.dT []) ∧ ∃ (a : Addr) (k : List Key), x = .ref a ∧ H2 a = some (.tup (k.map kV)) ∧ Q (.ref s.heap.objs.size) (upd H2 s.heap.objs.size (.dT [(k, y)]))
    | _ => False) I1 (q _ hn)) fun ws s2 ⟨ps, H2, I2, rel, q2⟩ => ?_
  match ps, q2 with
  | [(x, y)], ⟨e, a, kk, ex, ea, q2⟩ =>
    subst ex
    cases rel with
    | @cons _ b _ _ hb hr =>
      cases hr
      obtain ⟨b1, b2⟩ := b
      obtain ⟨r1, r2⟩ := hb
      cases (show b1 = Value.ref a from r1)
      obtain ⟨z, hd, xs, rel, dd⟩ := dt_of I2.hok e
      cases rel
      refine ⟨[(kk, a, b2)], ⟨rfl, rfl, key_of I2.hok ea, trivial⟩, dd, fun h' tk' dd' hs => wpAny_pure ⟨.ref s.heap.objs.size, upd H2 s.heap.objs.size (.dT [(kk, y)]), ?_, rfl, q2⟩⟩
      obtain ⟨o', es, ep, hq, h2, h3, h4, _, h5⟩ := dd'
      refine d_write I2 (by rw [e]; exact True.intro) hs ⟨o', hq⟩ ⟨by show 1 ≤ sizeLine; decide, hd, [(kk, a, b2)], .cons ⟨rfl, ?_, r2⟩ .nil, o', es, ep, hq, h2, h3, h4, h5⟩
      rw [upd_ne (ne_of ea e (fun z => nomatch z))]
      exact ea
end WS
/-! WsB4: sorted of data, repr of a list, a call with keywords alone, len, isinstance. -/
namespace WS
open PySem PySem.Spec PyProof.Rows L2

/-! ### sorted -/
/-- the sorted list of data -/
noncomputable abbrev srt (ds : List PyData) : List PyData := ds.mergeSort (PySem.W.dataLe false id)
/-- data that can be sorted -/
def Srtb (ds : List PyData) : Prop := ds.length < 2 ∨ (PySem.W.AllAlike ds ∧ PySem.W.Sortable ds ∧ ∀ d ∈ ds, d.depth ≤ 40)
theorem srt_short {ds : List PyData} (h : ds.length < 2) : srt ds = ds := by
  match ds, h with
  | [], _ => simp [srt, List.mergeSort]
  | [d], _ => simp [srt, List.mergeSort]
  | _ :: _ :: _, h => exact absurd h (by simp)
theorem perm_short {α : Type} : ∀ {a b : List α}, a.Perm b → b.length < 2 → a = b
  | a, [], p, _ => List.perm_nil.mp p
  | a, [y], p, _ => List.perm_singleton.mp p
  | _, _ :: _ :: _, _, h => absurd h (by simp)
def rSortD (K : PySem.W.Frag) : List V → Hp → VK → Prop := fun vs H Q => ∃ (a : Addr) (xs : List V) (ds : List PyData), vs = [.ref a] ∧ SqL K H a xs ∧ TpA H xs ds ∧ Srtb ds ∧
  ∀ ys p, H p = none → TpA H ys (srt ds) → Q (.ref p) (upd H p (.lst ys))
section
variable {X : Cx} {pins : List (Addr × Obj)} {σ : L2.St} {H : Hp} {s : Shared}
theorem each_of (I : Inv X pins σ H s) : ∀ {xs : List V} {us : List Value} {ds : List PyData}, Vals xs us → TpA H xs ds → PySem.W.EachIs (fun v d => ∃ as, Reads s.heap v d as) us ds
  | _, _, _, .nil, .nil => .nil
  | _, _, _, .cons r rs, .cons t ts => .cons (Dp.reads I _ _ _ t.dp r) (each_of I rs ts)
theorem each_rel : ∀ {xs : List V} {us : List Value} {ds : List PyData}, Vals xs us → TpA H xs ds → PySem.W.EachIs (fun v d => ∃ x, RelV x v ∧ Tp H x d) us ds
  | _, _, _, .nil, .nil => .nil
  | _, _, _, .cons r rs, .cons t ts => .cons ⟨_, r, t⟩ (each_rel rs ts)
theorem each_back : ∀ {us : List Value} {ds : List PyData}, PySem.W.EachIs (fun v d => ∃ x, RelV x v ∧ Tp H x d) us ds → ∃ xs, Vals xs us ∧ TpA H xs ds
  | _, _, .nil => ⟨[], .nil, .nil⟩
  | _, _, .cons ⟨x, r, t⟩ h => let ⟨xs, rs, ts⟩ := each_back h; ⟨x :: xs, .cons r rs, .cons t ts⟩
theorem cr_sortD (hu : X.A.units + 64 < cLine) : CallR X (.builtin "sorted") (rSortD X.K) := by
  intro pins s σ H vs us Q I r h
  obtain ⟨a, xs, ds, rfl, hS, ht, hk, q⟩ := h
  obtain rfl := r.ref1
  obtain ⟨its, rv, pl, hz⟩ := I.list hS
  have hlen := rv.length
  have hlen2 := ht.len
  have fin : ∀ out : List Value, out.length = ds.length → (∃ ys, Vals ys out ∧ TpA H ys (srt ds)) → EP X pins σ Q (.ref (s.heap.objs.size + 1)) { s with heap := PyProof.Rows.sortedAll s.heap its out.toArray } := by
    intro out hol ⟨ys, rvo, hty⟩
    obtain ⟨c, hc⟩ := PyProof.Rows.sortedAll_at s.heap its out.toArray
    have hn : H (s.heap.objs.size + 1) = none := I.hok.fresh (Nat.le_succ _)
    generalize hh : PyProof.Rows.sortedAll s.heap its out.toArray = h' at hc ⊢
    have hk : ∀ b o, s.heap.get? b = some o → h'.get? b = some o := fun b o e => by rw [← hh]; exact PyProof.Rows.sortedAll_old e
    have new : ObjOk X.prog X.w (upd H (s.heap.objs.size + 1) (.lst ys)) h' (s.heap.objs.size + 1) (.lst ys) := ⟨by rw [rvo.length, hol]; omega, out, c, rvo, hc⟩
    have I2 : Inv X pins σ (upd H (s.heap.objs.size + 1) (.lst ys)) { s with heap := h' } := I.laid (h' := h') (t' := s.toks) hk (Nat.le_succ _) new
    exact ⟨.ref (s.heap.objs.size + 1), _, I2, rfl, q ys _ hn hty⟩
  rcases hk with hk | ⟨h1, h2, h3⟩
  · have O : SrtO.Swo (fun _ _ : Value => false) := ⟨fun _ _ h => (by cases h), fun _ _ _ _ _ => rfl⟩
    have h2' : ∀ out : List Value, SrtO.Stb (fun _ _ : Value => false) out its → EP X pins σ Q (.ref (s.heap.objs.size + 1)) { s with heap := PyProof.Rows.sortedAll s.heap its out.toArray } := fun out hb => by
      refine fin out (by have e1 := hb.perm.length_eq; omega) ?_
      have ep := hb.perm
      have e : out = its := perm_short ep (by omega)
      subst e
      exact ⟨xs, rv, by rw [srt_short hk]; exact ht⟩
    have hz' : its.length ≤ sizeLine := by omega
    exact SrtO.sorted_ord O pl.isList hz' (fun h2 => absurd h2 (by omega)) fun out _ hb => h2' out hb
  · have em : ds.map id = ds := List.map_id ds
    refine PySem.W.sorted_data (R := fun v d => ∃ x, RelV x v ∧ Tp H x d) (enc := id) pl.isList (each_rel rv ht) (each_of I rv ht) (by rw [em]; exact h1) (by rw [em]; exact h2) (by omega) (fun d hd => ?_) fun out ho he => fin out ho (each_back he)
    have := h3 d hd
    show X.A.units + 2 + d.depth < cLine
    omega

/-! ### repr of a list of data -/
def rReprL (K : PySem.W.Frag) : List V → Hp → VK → Prop := fun vs H Q => ∃ (a : Addr) (xs : List V) (ds : List PyData), vs = [.ref a] ∧ SqL K H a xs ∧ TpA H xs ds ∧ (PyData.list ds).showable = true ∧ (PyData.list ds).hasDict = false ∧ (PyData.list ds).depth ≤ 40 ∧
  (PyData.list ds).shown.length ≤ sizeLine ∧ Q (.str (PyData.list ds).shown) H
theorem cr_reprL (hu : X.A.units + 64 < cLine) (hg : X.A.guards = some []) : CallR X (.builtin "repr") (rReprL X.K) := by
  intro pins s σ H vs us Q I r h
  obtain ⟨a, xs, ds, rfl, hS, ht, h1, h2, h3, h4, q⟩ := h
  obtain rfl := r.ref1
  obtain ⟨as, rd⟩ := Dp.reads I (.list ds) (.ref a) (.ref a) (.lst hS ht.dp) rfl
  exact repr_of_reads' rd h1 (PyData.noDict_hsm h2) hg (by omega) (fun _ _ e => e) (fun h' u tk hk => ⟨.str _, H, I.kept (t' := tk) hk, ⟨u, rfl⟩, q⟩) h4

/-! ### f(k = v, ..), nothing by position -/
variable {CX : CXT} {k : Nat} {f : Addr} {fd : FuncData} {ps ks : List PySem.Str} {sp : Sp} {E : XK} {x : PySem.Str} {p pos : Pos} {kws : List Keyword} {tk : TA} {g : List Value → List Value → List Value} {gV : List V → List V → List V}
theorem pe_callK0 (F : FnOk X.prog X.w X.K X.mg X.base CX k f fd ps sp) (hr : Room k X.A) (hgl : Gl X x) (hm : X.mg x = some (.ref f)) (hk : PySem.W.keepIn X.K (.ref f) = true) (hb : KBinds X.K fd ps ks g gV) (hx : Passes CX X E) (hkw : PK X kws tk)
    (hall : (backToKw pos (keywordEach kws X.env)).all (·.1.isSome) = true := by rfl) (hks : (backToKw pos (keywordEach kws X.env)).filterMap (·.1) = ks := by rfl) (hdb : (x == ("__debug__" : PySem.Str)) = false := by decide)
    (hpl : ((backTo pos (starEach [] X.env)).any (·.1) || (backToKw pos (keywordEach kws X.env)).any (·.1.isNone)) = false := by rfl) : PE X (.Call (.Name x p) [] kws pos) (tCallK sp gV E tNil tk) := by
  refine ⟨fun pins s σ H Q I h => ?_⟩
  refine wpAny_Call_Name_kw (ld_glob I hgl hm ?_ hdb)
  refine PySem.W.callWith_KW0 (h₀ := X.base) I.ok.mod.kin hk hall (thn (hkw.run pos pins s σ H _ I h) fun ws s2 ⟨zs, H2, I2, rz, q2⟩ => ⟨I2.kIn, ?_⟩) hpl
  rw [hks]
  exact run_fnk (us := []) (vs := []) F hr hb hx I2 .nil rz q2
end
end WS
/-! WsC: what an expression gives, in data: Em, Ed (a datum), El (a list), Eln (a new list), Et (a test), Ea (arguments); comprehensions; loops. -/
namespace WS
open PySem PySem.Spec PyProof.Rows L2

theorem sz_le {n : Nat} (h : n ≤ 100000) : n ≤ sizeLine := Nat.le_trans h (by decide)
theorem sz_lt {n : Nat} (h : n < 100000) : n < sizeLine := Nat.lt_of_lt_of_le h (by decide)
def Em (te : TE) (σ : L2.St) (H : Hp) (P : V → Hp → Prop) : Prop := ∀ H1, Same H H1 → ∀ Q : VK, (∀ v H2, Same H1 H2 → P v H2 → Q v H2) → te σ H1 Q
def Dt (d : PyData) : V → Hp → Prop := fun v H => Tp H v d
def Li (ds : List PyData) : V → Hp → Prop := fun v H => ∃ p, v = .ref p ∧ Ls H p ds
abbrev Ed (te : TE) (σ : L2.St) (H : Hp) (d : PyData) : Prop := Em te σ H (Dt d)
abbrev El (te : TE) (σ : L2.St) (H : Hp) (ds : List PyData) : Prop := Em te σ H (Li ds)
def Eln (te : TE) (σ : L2.St) (H : Hp) (ds : List PyData) : Prop := ∀ H1, Same H H1 → ∀ Q : VK, (∀ p H2, H1 p = none → Same H1 H2 → Ls H2 p ds → Q (.ref p) H2) → te σ H1 Q
def Et (tt : TT) (σ : L2.St) (H : Hp) (b : Bool) : Prop := ∀ H1, Same H H1 → ∀ Q : Bool → Hp → Prop, (∀ H2, Same H1 H2 → Q b H2) → tt σ H1 Q
def Ea (ta : TA) (σ : L2.St) (H : Hp) (P : List V → Hp → Prop) : Prop := ∀ H1, Same H H1 → ∀ Q : List V → Hp → Prop, (∀ vs H2, Same H1 H2 → P vs H2 → Q vs H2) → ta σ H1 Q
def Da (ds : List PyData) : List V → Hp → Prop := fun vs H => TpA H vs ds
def Up (P : V → Hp → Prop) : Prop := ∀ v H H', Same H H' → P v H → P v H'
theorem up_Dt {d : PyData} : Up (Dt d) := fun _ _ _ e h => Tp.up h e
theorem up_Li {ds : List PyData} : Up (Li ds) := fun _ _ _ e ⟨p, h, l⟩ => ⟨p, h, l.up e⟩
theorem Eln.el {te : TE} {σ : L2.St} {H : Hp} {ds : List PyData} (h : Eln te σ H ds) : El te σ H ds := fun H1 e Q q => h H1 e Q fun p H2 _ e2 l => q _ H2 e2 ⟨p, rfl, l⟩
section
variable {K : PySem.W.Frag} {σ : L2.St} {H H' : Hp} {ta tb te : TE} {t u : TT} {v : V} {d e d1 d2 : PyData} {ds es : List PyData} {P R : V → Hp → Prop} {i j : Int} {b c : Bool}
theorem Em.mono (a : Same H H') (h : Em te σ H P) : Em te σ H' P := fun H1 e Q q => h H1 (a.trans e) Q q
theorem Em.imp (h : Em te σ H P) (k : ∀ v H', Same H H' → P v H' → R v H') : Em te σ H R := fun H1 e Q q => h H1 e Q fun v H2 e2 p => q v H2 e2 (k v H2 (e.trans e2) p)
theorem em_var {k : Nat} (h : σ[k]? = some (some v)) (u : Up P) (p : P v H) : Em (tVar k) σ H P := fun H1 e _ q => ⟨v, h, q v H1 (.refl _) (u _ _ _ e p)⟩
theorem ed_var {k : Nat} (h : σ[k]? = some (some v)) (p : Tp H v d) : Ed (tVar k) σ H d := em_var h up_Dt p
theorem ed_varI {k : Nat} (h : σ[k]? = some (some (.int i))) : Ed (tVar k) σ H (.int i) := ed_var h (.int i)
theorem ed_varB {k : Nat} (h : σ[k]? = some (some (.bl b))) : Ed (tVar k) σ H (.bool b) := ed_var h (.bl b)
theorem el_var {k : Nat} {p : Addr} (h : σ[k]? = some (some (.ref p))) (l : Ls H p ds) : El (tVar k) σ H ds := em_var h up_Li ⟨p, rfl, l⟩
theorem ed_int : Ed (tC (.int i)) σ H (.int i) := fun H1 _ _ q => q _ H1 (.refl _) (Tp.int i)
theorem ed_bl : Ed (tC (.bl b)) σ H (.bool b) := fun H1 _ _ q => q _ H1 (.refl _) (Tp.bl b)
/-! two-place operations -/
theorem ed_op {r : R2} (ha : Ed ta σ H d1) (hb : Ed tb σ H d2) (hr : ∀ x y H1, Same H H1 → Tp H1 x d1 → Tp H1 y d2 → ∀ Q : VK, (∀ v H2, Same H1 H2 → Tp H2 v d → Q v H2) → r x y H1 Q) : Ed (tOp r ta tb) σ H d := fun H1 e Q q =>
  ha H1 e _ fun x H2 e2 p => hb H2 (e.trans e2) _ fun y H3 e3 p3 => hr x y H3 ((e.trans e2).trans e3) (Tp.up p e3) p3 Q fun v H4 e4 p4 => q v H4 ((e2.trans e3).trans e4) p4
theorem ed_I0 {g : Int → Int → V} (ha : Ed ta σ H (.int i)) (hb : Ed tb σ H (.int j)) (hd : ∀ H, Tp H (g i j) d) : Ed (tOp (rI0 g) ta tb) σ H d :=
  ed_op ha hb fun x y H1 _ px py Q q => ⟨i, j, px.ofInt, py.ofInt, q _ H1 (.refl _) (hd _)⟩
theorem ed_I {C : Int → Int → Prop} {g : Int → Int → V} (hc : C i j) (ha : Ed ta σ H (.int i)) (hb : Ed tb σ H (.int j)) (hd : ∀ H, Tp H (g i j) d) : Ed (tOp (rI C g) ta tb) σ H d :=
  ed_op ha hb fun x y H1 _ px py Q q => ⟨i, j, px.ofInt, py.ofInt, hc, q _ H1 (.refl _) (hd _)⟩
theorem ed_add (ha : Ed ta σ H (.int i)) (hb : Ed tb σ H (.int j)) : Ed (tOp (rI0 fun i j => .int (i + j)) ta tb) σ H (.int (i + j)) := ed_I0 ha hb fun _ => .int _
theorem ed_sub (ha : Ed ta σ H (.int i)) (hb : Ed tb σ H (.int j)) : Ed (tOp (rI0 fun i j => .int (i - j)) ta tb) σ H (.int (i - j)) := ed_I0 ha hb fun _ => .int _
theorem ed_lt (ha : Ed ta σ H (.int i)) (hb : Ed tb σ H (.int j)) : Ed (tOp (rI0 fun i j => .bl (decide (i < j))) ta tb) σ H (.bool (decide (i < j))) := ed_I0 ha hb fun _ => .bl _
theorem ed_le (ha : Ed ta σ H (.int i)) (hb : Ed tb σ H (.int j)) : Ed (tOp (rI0 fun i j => .bl (decide (i ≤ j))) ta tb) σ H (.bool (decide (i ≤ j))) := ed_I0 ha hb fun _ => .bl _
theorem ed_gt (ha : Ed ta σ H (.int i)) (hb : Ed tb σ H (.int j)) : Ed (tOp (rI0 fun i j => .bl (decide (j < i))) ta tb) σ H (.bool (decide (j < i))) := ed_I0 ha hb fun _ => .bl _
theorem ed_ge (ha : Ed ta σ H (.int i)) (hb : Ed tb σ H (.int j)) : Ed (tOp (rI0 fun i j => .bl (decide (j ≤ i))) ta tb) σ H (.bool (decide (j ≤ i))) := ed_I0 ha hb fun _ => .bl _
theorem dec_vint {i j : Int} : decide (V.int i = V.int j) = decide (i = j) := by simp
theorem dec_vbl {i j : Bool} : decide (V.bl i = V.bl j) = decide (i = j) := by simp
theorem ed_eqI (ha : Ed ta σ H (.int i)) (hb : Ed tb σ H (.int j)) : Ed (tOp rEq ta tb) σ H (.bool (decide (i = j))) :=
  ed_op ha hb fun x y H1 _ px py Q q => by rw [px.ofInt, py.ofInt]; exact ⟨rfl, q _ H1 (.refl _) (by rw [dec_vint]; exact .bl _)⟩
theorem ed_neI (ha : Ed ta σ H (.int i)) (hb : Ed tb σ H (.int j)) : Ed (tOp rNe ta tb) σ H (.bool (!decide (i = j))) :=
  ed_op ha hb fun x y H1 _ px py Q q => by rw [px.ofInt, py.ofInt]; exact ⟨rfl, q _ H1 (.refl _) (by rw [dec_vint]; exact .bl _)⟩
theorem ed_neB {b c : Bool} (ha : Ed ta σ H (.bool b)) (hb : Ed tb σ H (.bool c)) : Ed (tOp rNe ta tb) σ H (.bool (!decide (b = c))) :=
  ed_op ha hb fun x y H1 _ px py Q q => by rw [px.ofBl, py.ofBl]; exact ⟨rfl, q _ H1 (.refl _) (by rw [dec_vbl]; exact .bl _)⟩
theorem ed_mul (hc : CMul i j) (ha : Ed ta σ H (.int i)) (hb : Ed tb σ H (.int j)) : Ed (tOp (rI CMul fun i j => .int (i * j)) ta tb) σ H (.int (i * j)) := ed_I hc ha hb fun _ => .int _
theorem ed_mod (hc : 0 < j) (ha : Ed ta σ H (.int i)) (hb : Ed tb σ H (.int j)) : Ed (tOp (rI (fun _ j => 0 < j) fun i j => .int (i % j)) ta tb) σ H (.int (i % j)) := ed_I hc ha hb fun _ => .int _
theorem ed_neg (ha : Ed ta σ H (.int i)) : Ed (tUn (rU fun i => .int (-i)) ta) σ H (.int (-i)) := fun H1 e Q q =>
  ha H1 e _ fun x H2 e2 p => ⟨i, p.ofInt, q _ H2 e2 (Tp.int _)⟩
theorem ed_eqD (ha : Ed ta σ H d1) (hb : Ed tb σ H d2) (h1 : SeqAt.shaped d1 = true) (h2 : SeqAt.shaped d2 = true) (p1 : plain d1 = true) (p2 : plain d2 = true) : Ed (tOp (rEqD K) ta tb) σ H (.bool (PyData.eqv d1 d2)) :=
  ed_op ha hb fun x y H1 _ px py Q q => ⟨d1, d2, px.dp, py.dp, h1, h2, q _ H1 (.refl _) (Tp.bl _)⟩
theorem ed_neD (ha : Ed ta σ H d1) (hb : Ed tb σ H d2) (h1 : SeqAt.shaped d1 = true) (h2 : SeqAt.shaped d2 = true) : Ed (tOp (rNeD K) ta tb) σ H (.bool (!PyData.eqv d1 d2)) :=
  ed_op ha hb fun x y H1 _ px py Q q => ⟨d1, d2, px.dp, py.dp, h1, h2, q _ H1 (.refl _) (Tp.bl _)⟩
theorem Ls.dp {p : Addr} (h : Ls H p ds) : Dp K H (.ref p) (.list ds) := let ⟨vs, h1, h2⟩ := h; .lst (.inl (.inl h1)) h2.dp
theorem ed_eqLL (ha : El ta σ H ds) (hb : El tb σ H es) (h1 : SeqAt.shaped (.list ds) = true) (h2 : SeqAt.shaped (.list es) = true) : Ed (tOp (rEqD K) ta tb) σ H (.bool (PyData.eqv (.list ds) (.list es))) := fun H1 e Q q =>
  ha H1 e _ fun x H2 e2 p => hb H2 (e.trans e2) _ fun y H3 e3 p3 => by
    obtain ⟨a, rfl, l1⟩ := p
    obtain ⟨c, rfl, l2⟩ := p3
    exact ⟨_, _, (l1.up e3).dp, l2.dp, h1, h2, q _ H3 (e2.trans e3) (Tp.bl _)⟩
theorem ed_neLL (ha : El ta σ H ds) (hb : El tb σ H es) (h1 : SeqAt.shaped (.list ds) = true) (h2 : SeqAt.shaped (.list es) = true) : Ed (tOp (rNeD K) ta tb) σ H (.bool (!PyData.eqv (.list ds) (.list es))) := fun H1 e Q q =>
  ha H1 e _ fun x H2 e2 p => hb H2 (e.trans e2) _ fun y H3 e3 p3 => by
    obtain ⟨a, rfl, l1⟩ := p
    obtain ⟨c, rfl, l2⟩ := p3
    exact ⟨_, _, (l1.up e3).dp, l2.dp, h1, h2, q _ H3 (e2.trans e3) (Tp.bl _)⟩
theorem atI_map {α β : Type} {f : α → β} {xs : List α} {i : Int} : atI (xs.map f) i = (atI xs i).map f := by
  unfold atI
  rw [List.length_map]
  cases ixN xs.length i <;> simp
theorem TpA.at {vs : List V} (h : TpA H vs ds) {i : Int} (e : atI ds i = some d) : ∃ v, atI vs i = some v ∧ Tp H v d := by
  unfold atI at e ⊢
  rw [h.len]
  cases q : ixN ds.length i with
  | none => rw [q] at e; cases e
  | some j =>
    rw [q] at e
    exact h.getD e
theorem ed_ixT (ha : Ed ta σ H (.tuple ds)) (hb : Ed tb σ H (.int i)) (he : atI ds i = some d) : Ed (tOp (rIxT K) ta tb) σ H d :=
  ed_op ha hb fun x y H1 _ px py Q q => by
    obtain ⟨a, xs, rfl, h1, h2⟩ := px.ofTup
    obtain ⟨v, hv, tv⟩ := h2.at he
    exact ⟨a, xs, i, v, rfl, py.ofInt, .inl (.inl h1), hv, q _ H1 (.refl _) tv⟩
theorem ed_ixL (ha : El ta σ H ds) (hb : Ed tb σ H (.int i)) (he : atI ds i = some d) : Ed (tOp (rIxL K) ta tb) σ H d := fun H1 e Q q =>
  ha H1 e _ fun x H2 e2 p => hb H2 (e.trans e2) _ fun y H3 e3 p3 => by
    obtain ⟨a, rfl, l⟩ := p
    obtain ⟨xs, h1, h2⟩ := l.up e3
    obtain ⟨v, hv, tv⟩ := h2.at he
    exact ⟨a, xs, i, v, rfl, Tp.ofInt p3, .inl (.inl h1), hv, q _ H3 (e2.trans e3) tv⟩
theorem ed_cat (hz : ds.length + es.length ≤ 100000) (ha : Ed ta σ H (.tuple ds)) (hb : Ed tb σ H (.tuple es)) : Ed (tOp (rCatA K) ta tb) σ H (.tuple (ds ++ es)) :=
  ed_op ha hb fun x y H1 _ px py Q q => by
    obtain ⟨a, xs, rfl, h1, h2⟩ := px.ofTup
    obtain ⟨b, ys, rfl, k1, k2⟩ := py.ofTup
    refine ⟨a, b, xs, ys, rfl, rfl, .inl (.inl h1), .inl (.inl k1), by rw [h2.len, k2.len]; exact sz_le hz, fun z => ?_, fun _ z => ?_, fun _ _ p hp => ?_⟩
    · subst z; cases h2; exact q _ H1 (.refl _) py
    · subst z; cases k2; rw [List.append_nil] at q; exact q _ H1 (.refl _) px
    · exact q _ _ (sm_new hp) (.tup upd_same ((h2.app k2).up (sm_new hp)))
theorem eln_cat (hz : ds.length + es.length ≤ 100000) (ha : El ta σ H ds) (hb : El tb σ H es) : Eln (tOp rCat ta tb) σ H (ds ++ es) := fun H1 e Q q =>
  ha H1 e _ fun x H2 e2 p => hb H2 (e.trans e2) _ fun y H3 e3 p3 => by
    obtain ⟨a, rfl, l1⟩ := p
    obtain ⟨b, rfl, ys, k1, k2⟩ := p3
    obtain ⟨xs, h1, h2⟩ := l1.up e3
    refine ⟨a, b, xs, ys, rfl, rfl, h1, k1, by rw [h2.len, k2.len]; exact sz_le hz, fun p hp => q p _ ((e2.trans e3).free hp) ((e2.trans e3).trans (sm_new hp)) ⟨_, upd_same, (h2.app k2).up (sm_new hp)⟩⟩
theorem TpA.reps {vs : List V} (h : TpA H vs ds) : ∀ n : Nat, TpA H (List.replicate n vs).flatten (List.replicate n ds).flatten
  | 0 => .nil
  | n + 1 => by
    rw [List.replicate_succ, List.replicate_succ, List.flatten_cons, List.flatten_cons]
    exact h.app (TpA.reps h n)
theorem eln_rep (hj : -1000 ≤ j ∧ j ≤ 1000) (hz : ds.length ≤ 10) (ha : El ta σ H ds) (hb : Ed tb σ H (.int j)) : Eln (tOp rRep ta tb) σ H (List.replicate j.toNat ds).flatten := fun H1 e Q q =>
  ha H1 e _ fun x H2 e2 p => hb H2 (e.trans e2) _ fun y H3 e3 p3 => by
    obtain ⟨a, rfl, l1⟩ := p
    obtain ⟨xs, h1, h2⟩ := l1.up e3
    refine ⟨a, j, xs, rfl, Tp.ofInt p3, h1, by omega, by omega, ?_, fun p hp => q p _ ((e2.trans e3).free hp) ((e2.trans e3).trans (sm_new hp)) ⟨_, upd_same, (h2.reps _).up (sm_new hp)⟩⟩
    rw [h2.len]
    exact sz_le (Nat.le_trans (Nat.mul_le_mul hz (show j.toNat ≤ 1000 by omega)) (by decide))
/-! arguments -/
theorem ea_nil : Ea tNil σ H (Da []) := fun H1 _ _ q => q [] H1 (.refl _) .nil
theorem ea_cons {tr : TA} (h : Ed te σ H d) (hr : Ea tr σ H (Da ds)) : Ea (tCons te tr) σ H (Da (d :: ds)) := fun H1 e _ q =>
  h H1 e _ fun x H2 e2 p => hr H2 (e.trans e2) _ fun xs H3 e3 p3 => q _ H3 (e2.trans e3) (TpA.cons (Tp.up p e3) p3)
theorem ea_one (h : Em te σ H P) : Ea (tCons te tNil) σ H (fun vs H => ∃ v, vs = [v] ∧ P v H) := fun H1 e _ q => h H1 e _ fun x H2 e2 p => q _ H2 e2 ⟨x, rfl, p⟩
theorem ea_star {tr : TA} (h : Ed te σ H (.tuple ds)) (hr : Ea tr σ H (Da es)) : Ea (StX.tStar K te tr) σ H (Da (ds ++ es)) := fun H1 e _ q =>
  h H1 e _ fun x H2 e2 p => by
    obtain ⟨a, xs, rfl, h1, h2⟩ := Tp.ofTup p
    exact ⟨a, xs, rfl, .inl (.inl (.inl h1)), hr H2 (e.trans e2) _ fun ys H3 e3 p3 => q _ H3 (e2.trans e3) ((h2.up e3).app p3)⟩
theorem ea_starL {tr : TA} (h : El te σ H ds) (hr : Ea tr σ H (Da es)) : Ea (StX.tStar K te tr) σ H (Da (ds ++ es)) := fun H1 e _ q =>
  h H1 e _ fun x H2 e2 p => by
    obtain ⟨a, rfl, xs, h1, h2⟩ := p
    exact ⟨a, xs, rfl, .inr (.inl (.inl h1)), hr H2 (e.trans e2) _ fun ys H3 e3 p3 => q _ H3 (e2.trans e3) ((h2.up e3).app p3)⟩
theorem ed_tup {ta : TA} (hz : ds.length ≤ 100000) (h : Ea ta σ H (Da ds)) : Ed (tTup ta) σ H (.tuple ds) := fun H1 e _ q =>
  h H1 e _ fun xs H2 e2 p => ⟨by rw [p.len]; exact sz_le hz, fun a ha => q _ _ (e2.trans (sm_new ha)) (Tp.tup upd_same (p.up (sm_new ha)))⟩
theorem eln_lst {ta : TA} (hz : ds.length ≤ 100000) (h : Ea ta σ H (Da ds)) : Eln (tLst ta) σ H ds := fun H1 e _ q =>
  h H1 e _ fun xs H2 e2 p => ⟨by rw [p.len]; exact sz_le hz, fun a ha => q _ _ (e2.free ha) (e2.trans (sm_new ha)) ⟨_, upd_same, p.up (sm_new ha)⟩⟩
theorem em_cb {r : List V → Hp → VK → Prop} {ta : TA} {A : List V → Hp → Prop} (h : Ea ta σ H A) (hr : ∀ vs H1, Same H H1 → A vs H1 → ∀ Q : VK, (∀ v H2, Same H1 H2 → R v H2 → Q v H2) → r vs H1 Q) : Em (tCB r ta) σ H R := fun H1 e Q q =>
  h H1 e _ fun vs H2 e2 p => hr vs H2 (e.trans e2) p Q fun v H3 e3 p3 => q v H3 (e2.trans e3) p3
theorem tpa1 {vs : List V} (h : TpA H vs [d]) : ∃ v, vs = [v] ∧ Tp H v d := by
  cases h with
  | cons a b => cases b; exact ⟨_, rfl, a⟩
theorem tpa2 {vs : List V} (h : TpA H vs [d1, d2]) : ∃ v w, vs = [v, w] ∧ Tp H v d1 ∧ Tp H w d2 := by
  cases h with
  | cons a b => obtain ⟨w, rfl, k⟩ := tpa1 b; exact ⟨_, w, rfl, a, k⟩
theorem tpa3 {vs : List V} {d3 : PyData} (h : TpA H vs [d1, d2, d3]) : ∃ v w z, vs = [v, w, z] ∧ Tp H v d1 ∧ Tp H w d2 ∧ Tp H z d3 := by
  cases h with
  | cons a b => obtain ⟨w, z, rfl, k, l⟩ := tpa2 b; exact ⟨_, w, z, rfl, a, k, l⟩
theorem ed_len (h : Ed te σ H (.tuple ds)) : Ed (tCB (fun xs H Q => ∃ p ys, xs = [.ref p] ∧ (SqL K H p ys ∨ SqT K H p ys) ∧ Q (.int ys.length) H) (tCons te tNil)) σ H (.int ds.length) :=
  em_cb (ea_one h) fun vs H1 _ ⟨v, ev, p⟩ Q q => by
    obtain ⟨a, xs, rfl, h1, h2⟩ := Tp.ofTup p
    exact ⟨a, xs, ev, .inr (.inl (.inl h1)), q _ H1 (.refl _) (by rw [h2.len]; exact .int _)⟩
theorem ed_lenL (h : El te σ H ds) : Ed (tCB (fun xs H Q => ∃ p ys, xs = [.ref p] ∧ (SqL K H p ys ∨ SqT K H p ys) ∧ Q (.int ys.length) H) (tCons te tNil)) σ H (.int ds.length) :=
  em_cb (ea_one h) fun vs H1 _ ⟨v, ev, p⟩ Q q => by
    obtain ⟨a, rfl, xs, h1, h2⟩ := p
    exact ⟨a, xs, ev, .inl (.inl (.inl h1)), q _ H1 (.refl _) (by rw [h2.len]; exact .int _)⟩
theorem ed_sumT {ns : List Int} (h : Ed te σ H (pT ns)) : Ed (tCB (rSumT K) (tCons te tNil)) σ H (.int ns.sum) :=
  em_cb (ea_one h) fun vs H1 _ ⟨v, ev, p⟩ Q q => by
    obtain ⟨a, rfl, h1⟩ := Tp.ofT p
    exact ⟨a, ns, ev, .inl (.inl h1), q _ H1 (.refl _) (.int _)⟩
theorem ed_sumL {ns : List Int} (h : El te σ H (ns.map .int)) : Ed (tCB (rSum K) (tCons te tNil)) σ H (.int ns.sum) :=
  em_cb (ea_one h) fun vs H1 _ ⟨v, ev, p⟩ Q q => by
    obtain ⟨a, rfl, xs, h1, h2⟩ := p
    rw [h2.ints] at h1
    exact ⟨a, ns, ev, .inl (.inl h1), q _ H1 (.refl _) (.int _)⟩
theorem ed_all {bs : List Bool} (h : El te σ H (bs.map .bool)) : Ed (tCB (rAll K) (tCons te tNil)) σ H (.bool (bs.all id)) :=
  em_cb (ea_one h) fun vs H1 _ ⟨v, ev, p⟩ Q q => by
    obtain ⟨a, rfl, xs, h1, h2⟩ := p
    rw [h2.bls] at h1
    exact ⟨a, bs, ev, .inl (.inl h1), q _ H1 (.refl _) (.bl _)⟩
theorem ed_max (ha : Ed ta σ H (.int i)) (hb : Ed tb σ H (.int j)) : Ed (tCB (fun xs H Q => ∃ i j, xs = [.int i, .int j] ∧ Q (.int (if j > i then j else i)) H) (tCons ta (tCons tb tNil))) σ H (.int (max i j)) :=
  em_cb (ea_cons ha (ea_cons hb ea_nil)) fun vs H1 _ p Q q => by
    obtain ⟨v, w, rfl, h1, h2⟩ := tpa2 p
    rw [h1.ofInt, h2.ofInt]
    refine ⟨i, j, rfl, q _ H1 (.refl _) ?_⟩
    have : (if j > i then j else i) = max i j := by split <;> omega
    rw [this]
    exact .int _
theorem ed_min (ha : Ed ta σ H (.int i)) (hb : Ed tb σ H (.int j)) : Ed (tCB (fun xs H Q => ∃ i j, xs = [.int i, .int j] ∧ Q (.int (if j < i then j else i)) H) (tCons ta (tCons tb tNil))) σ H (.int (min i j)) :=
  em_cb (ea_cons ha (ea_cons hb ea_nil)) fun vs H1 _ p Q q => by
    obtain ⟨v, w, rfl, h1, h2⟩ := tpa2 p
    rw [h1.ofInt, h2.ofInt]
    refine ⟨i, j, rfl, q _ H1 (.refl _) ?_⟩
    have : (if j < i then j else i) = min i j := by split <;> omega
    rw [this]
    exact .int _
theorem ed_int1 (ha : Ed te σ H (.int i)) : Ed (tCB (fun xs H Q => (∃ i, xs = [.int i] ∧ Q (.int i) H) ∨ ∃ k, xs = [.bl k] ∧ Q (.int (if k then 1 else 0)) H) (tCons te tNil)) σ H (.int i) :=
  em_cb (ea_one ha) fun vs H1 _ ⟨v, ev, p⟩ Q q => .inl ⟨i, by rw [ev, Tp.ofInt p], q _ H1 (.refl _) (.int _)⟩
theorem ed_abs (ha : Ed te σ H (.int i)) : Ed (tCB (fun xs H Q => ∃ i, xs = [.int i] ∧ Q (.int (if i < 0 then -i else i)) H) (tCons te tNil)) σ H (.int (if i < 0 then -i else i)) :=
  em_cb (ea_one ha) fun vs H1 _ ⟨v, ev, p⟩ Q q => ⟨i, by rw [ev, Tp.ofInt p], q _ H1 (.refl _) (.int _)⟩
theorem ed_tuple (h : El te σ H ds) : Ed (tCB (fun xs H Q => ∃ p ys, xs = [.ref p] ∧ ((SqL K H p ys ∧ ∀ l, H l = none → Q (.ref l) (upd H l (.tup ys))) ∨ (SqT K H p ys ∧ Q (.ref p) H))) (tCons te tNil)) σ H (.tuple ds) :=
  em_cb (ea_one h) fun vs H1 _ ⟨v, ev, p⟩ Q q => by
    obtain ⟨a, rfl, xs, h1, h2⟩ := p
    exact ⟨a, xs, ev, .inl ⟨.inl (.inl h1), fun l hl => q _ _ (sm_new hl) (Tp.tup upd_same (h2.up (sm_new hl)))⟩⟩
theorem eln_list (h : Ed te σ H (.tuple ds)) : Eln (tCB (fun xs H Q => ∃ p ys, xs = [.ref p] ∧ (SqL K H p ys ∨ SqT K H p ys) ∧ ∀ l, H l = none → Q (.ref l) (upd H l (.lst ys))) (tCons te tNil)) σ H ds := fun H1 e Q q =>
  h H1 e _ fun v H2 e2 p => by
    obtain ⟨a, xs, rfl, h1, h2⟩ := Tp.ofTup p
    exact ⟨a, xs, rfl, .inr (.inl (.inl h1)), fun l hl => q l _ (e2.free hl) (e2.trans (sm_new hl)) ⟨_, upd_same, h2.up (sm_new hl)⟩⟩
theorem ed_isiT (h : Ed te σ H (.tuple ds)) : Ed (tCB (rIsi K) (tCons te (tCons (tC (.ty "tuple")) tNil))) σ H (.bool true) := fun H1 e Q q =>
  h H1 e _ fun v H2 e2 p => by
    obtain ⟨a, xs, rfl, h1, h2⟩ := Tp.ofTup p
    exact ⟨_, _, _, _, true, rfl, .ty _, .base (.tup h1), kit_ty (by decide +kernel), q _ H2 e2 (.bl _)⟩
theorem ed_isiI (h : Ed te σ H (.int i)) : Ed (tCB (rIsi K) (tCons te (tCons (tC (.ty "int")) tNil))) σ H (.bool true) := fun H1 e Q q =>
  h H1 e _ fun v H2 e2 p => by
    cases Tp.ofInt p
    exact ⟨_, _, _, _, true, rfl, .ty _, .base (.int i), kit_ty (by decide +kernel), q _ H2 e2 (.bl _)⟩
theorem ed_isiB (h : Ed te σ H (.int i)) : Ed (tCB (rIsi K) (tCons te (tCons (tC (.ty "bool")) tNil))) σ H (.bool false) := fun H1 e Q q =>
  h H1 e _ fun v H2 e2 p => by
    cases Tp.ofInt p
    exact ⟨_, _, _, _, false, rfl, .ty _, .base (.int i), kit_ty (by decide +kernel), q _ H2 e2 (.bl _)⟩
/-! slices -/
theorem TpA.cut {vs : List V} (h : TpA H vs ds) (lo hi : Option Int) : TpA H (cutV vs lo hi) ((ds.drop (HT.sIx ds.length 0 lo)).take (HT.sIx ds.length ds.length hi - HT.sIx ds.length 0 lo)) := by
  unfold cutV
  rw [h.len]
  exact (h.drop _).take _
def Eo (to : TO) (σ : L2.St) (H : Hp) (o : Option Int) : Prop := ∀ H1, Same H H1 → ∀ Q : Option Int → Hp → Prop, (∀ H2, Same H1 H2 → Q o H2) → to σ H1 Q
theorem eo_none : Eo tNoPart σ H none := fun H1 _ _ q => q H1 (.refl _)
theorem eo_some (h : Ed te σ H (.int i)) : Eo (tPart te) σ H (some i) := fun H1 e _ q => h H1 e _ fun v H2 e2 p => ⟨i, Tp.ofInt p, q H2 e2⟩
theorem ed_sl {tl th : TO} {lo hi : Option Int} (h : Ed te σ H (.tuple ds)) (h1 : Eo tl σ H lo) (h2 : Eo th σ H hi) : Ed (tSl (rSlA K) te tl th) σ H (.tuple ((ds.drop (HT.sIx ds.length 0 lo)).take (HT.sIx ds.length ds.length hi - HT.sIx ds.length 0 lo))) := fun H1 e Q q =>
  h H1 e _ fun v H2 e2 p => h1 H2 (e.trans e2) _ fun H3 e3 => h2 H3 ((e.trans e2).trans e3) _ fun H4 e4 => by
    obtain ⟨a, xs, rfl, k1, k2⟩ := (Tp.up p (e3.trans e4)).ofTup
    refine ⟨a, xs, rfl, .inl (.inl k1), fun ⟨z1, z2⟩ => q _ H4 ((e2.trans e3).trans e4) ?_, fun _ p' hp => q _ _ (((e2.trans e3).trans e4).trans (sm_new hp)) (Tp.tup upd_same ((k2.cut lo hi).up (sm_new hp)))⟩
    rw [k2.len] at z1 z2
    refine Tp.tup k1 ?_
    rw [z1, z2, List.drop_zero, Nat.sub_zero, List.take_length]
    exact k2
theorem el_sl {tl th : TO} {lo hi : Option Int} (h : El te σ H ds) (h1 : Eo tl σ H lo) (h2 : Eo th σ H hi) : El (tSl (rSlL K) te tl th) σ H ((ds.drop (HT.sIx ds.length 0 lo)).take (HT.sIx ds.length ds.length hi - HT.sIx ds.length 0 lo)) := fun H1 e Q q =>
  h H1 e _ fun v H2 e2 p => h1 H2 (e.trans e2) _ fun H3 e3 => h2 H3 ((e.trans e2).trans e3) _ fun H4 e4 => by
    obtain ⟨a, rfl, l⟩ := p
    obtain ⟨xs, k1, k2⟩ := l.up (e3.trans e4)
    exact ⟨a, xs, rfl, .inl (.inl k1), fun p' hp => q _ _ (((e2.trans e3).trans e4).trans (sm_new hp)) ⟨p', rfl, _, upd_same, (k2.cut lo hi).up (sm_new hp)⟩⟩
theorem ed_revT (h : Ed te σ H (.tuple ds)) : Ed (tRevT K te) σ H (.tuple ds.reverse) := fun H1 e Q q => h H1 e _ fun v H2 e2 p => by
    obtain ⟨a, xs, rfl, k1, k2⟩ := Tp.ofTup p
    exact ⟨a, xs, rfl, .inl (.inl k1), fun p' hp => q _ _ (e2.trans (sm_new hp)) (Tp.tup upd_same (k2.rev.up (sm_new hp)))⟩
theorem el_revL (h : El te σ H ds) : El (tRevL K te) σ H ds.reverse := fun H1 e Q q => h H1 e _ fun v H2 e2 p => by
    obtain ⟨a, rfl, xs, k1, k2⟩ := p
    exact ⟨a, xs, rfl, .inl (.inl k1), fun p' hp => q _ _ (e2.trans (sm_new hp)) ⟨p', rfl, _, upd_same, k2.rev.up (sm_new hp)⟩⟩
/-! tests -/
theorem et_test (h : Ed te σ H (.bool b)) : Et (tTest te) σ H b := fun H1 e _ q => h H1 e _ fun v H2 e2 p => ⟨b, Tp.ofBl p, q H2 e2⟩
theorem et_B (h : Ed te σ H (.bool b)) : Et (tB te) σ H b := fun H1 e _ q => h H1 e _ fun v H2 e2 p => ⟨b, Tp.ofBl p, q H2 e2⟩
theorem et_yes : Et tYes σ H true := fun H1 _ _ q => q H1 (.refl _)
theorem et_not (h : Et t σ H b) : Et (tNot t) σ H (!b) := fun H1 e _ q => h H1 e _ fun H2 e2 => q H2 e2
theorem et_and (h1 : Et t σ H b) (h2 : b = true → Et u σ H c) : Et (tAnd t u) σ H (b && c) := fun H1 e Q q => h1 H1 e _ fun H2 e2 => by
  cases b with
  | true => exact iteT (h2 rfl H2 (e.trans e2) Q fun H3 e3 => q H3 (e2.trans e3))
  | false => exact iteF (q H2 e2)
theorem et_or (h1 : Et t σ H b) (h2 : b = false → Et u σ H c) : Et (tOr t u) σ H (b || c) := fun H1 e Q q => h1 H1 e _ fun H2 e2 => by
  cases b with
  | true => exact iteT (q H2 e2)
  | false => exact iteF (h2 rfl H2 (e.trans e2) Q fun H3 e3 => q H3 (e2.trans e3))
theorem et_is (h : Et t σ H b) (e : b = c) : Et t σ H c := e ▸ h
theorem ed_is (h : Ed te σ H d) (e : d = d1) : Ed te σ H d1 := e ▸ h
theorem el_is (h : El te σ H ds) (e : ds = es) : El te σ H es := e ▸ h
theorem eln_is (h : Eln te σ H ds) (e : ds = es) : Eln te σ H es := e ▸ h
theorem ed_and (h1 : Ed ta σ H (.bool b)) (h2 : b = true → Ed tb σ H (.bool c)) : Ed (tAndV ta tb) σ H (.bool (b && c)) := fun H1 e Q q => h1 H1 e _ fun v H2 e2 p => ⟨b, Tp.ofBl p, by
  cases b with
  | true => exact iteT (h2 rfl H2 (e.trans e2) Q fun v H3 e3 p3 => q v H3 (e2.trans e3) p3)
  | false => exact iteF (q _ H2 e2 (Tp.bl false))⟩
theorem ed_not (h : Ed ta σ H (.bool b)) : Ed (tNotV ta) σ H (.bool (!b)) := fun H1 e Q q => h H1 e _ fun v H2 e2 p => ⟨b, Tp.ofBl p, q _ H2 e2 (Tp.bl _)⟩
theorem em_if (h : Et t σ H b) (h1 : b = true → Em ta σ H P) (h2 : b = false → Em tb σ H P) : Em (tIf t ta tb) σ H P := fun H1 e Q q => h H1 e _ fun H2 e2 => by
  cases b with
  | true => exact iteT (h1 rfl H2 (e.trans e2) Q fun v H3 e3 p3 => q v H3 (e2.trans e3) p3)
  | false => exact iteF (h2 rfl H2 (e.trans e2) Q fun v H3 e3 p3 => q v H3 (e2.trans e3) p3)
theorem ed_chain {k : Int} {r r' : R2} {f f' : Int → Int → Bool} (tc : TE) (hr : r = rI0 fun i j => .bl (f i j)) (hr' : r' = rI0 fun i j => .bl (f' i j)) (ha : Ed ta σ H (.int i)) (hb : Ed tb σ H (.int j)) (hc : Ed tc σ H (.int k)) : Ed (tChain r r' ta tb tc) σ H (.bool (f i j && f' j k)) := by
  subst hr hr'
  refine fun H1 e Q q => ha H1 e _ fun x H2 e2 p => hb H2 (e.trans e2) _ fun y H3 e3 p3 => ⟨i, j, Tp.ofInt p, Tp.ofInt p3, f i j, rfl, ?_⟩
  cases hf : f i j with
  | true => exact iteT (hc H3 ((e.trans e2).trans e3) _ fun z H4 e4 p4 => ⟨j, k, Tp.ofInt p3, Tp.ofInt p4, q _ H4 ((e2.trans e3).trans e4) (by rw [hf, Bool.true_and]; exact Tp.bl _)⟩)
  | false => exact iteF (q _ H3 (e2.trans e3) (by rw [hf, Bool.false_and]; exact Tp.bl _))
end

/-! ### promises and calls -/
/-- what a def promises: for each case i, from arguments args i, a result of which res i holds; all that was known stays -/
def Pr {ι : Type} (args : ι → List PyData) (pre : ι → Prop) (res : ι → V → Hp → Prop) : Sp := fun vs H Q _ => ∃ i, TpA H vs (args i) ∧ pre i ∧ ∀ v H', Same H H' → res i v H' → Q v H'
theorem em_call {ι : Type} {args : ι → List PyData} {pre : ι → Prop} {res : ι → V → Hp → Prop} {σ : L2.St} {H : Hp} {ta : TA} {E : XK} (i : ι) (p : pre i) (h : Ea ta σ H (Da (args i))) : Em (tCall (Pr args pre res) [] E ta) σ H (res i) := fun H1 e Q q =>
  h H1 e _ fun vs H2 e2 t => ⟨i, by rw [List.append_nil]; exact t, p, fun v H3 e3 r => q v H3 (e2.trans e3) r⟩
/-- the body's end: a value of which P holds comes back, what was known stays -/
def Ret (ts : TS) (σ : L2.St) (H : Hp) (P : V → Hp → Prop) : Prop := ∀ Q : VK, (∀ v H', Same H H' → P v H' → Q v H') → ts { nx := fun _ H' => Q .non H', rt := Q } σ H
section
variable {σ : L2.St} {H H' : Hp} {te : TE} {t : TT} {tu tw ts : TS} {D : Ends} {P R : V → Hp → Prop} {b : Bool} {d : PyData} {ds : List PyData}
theorem s_ret (h : Em te σ H P) (k : ∀ v H', Same H H' → P v H' → D.rt v H') : tRet te D σ H := h H (.refl _) _ k
theorem s_set {i : Nat} (h : Em te σ H P) (k : ∀ v H', Same H H' → P v H' → D.nx (σ.set i (some v)) H') : tAsg te (gName i) D σ H := h H (.refl _) _ k
theorem s_drop (h : Em te σ H P) (k : ∀ v H', Same H H' → P v H' → D.nx σ H') : tDrop te D σ H := h H (.refl _) _ k
theorem s_if (h : Et t σ H b) (h1 : b = true → ∀ H', Same H H' → tu D σ H') (h2 : b = false → ∀ H', Same H H' → tw D σ H') : tIfS t tu tw D σ H := h H (.refl _) _ fun H1 e => by
  cases b with
  | true => exact iteT (h1 rfl H1 e)
  | false => exact iteF (h2 rfl H1 e)
theorem s_ifF (h : Et t σ H false) (k : ∀ H', Same H H' → tw D σ H') : tIfS t tu tw D σ H := s_if h (fun z => nomatch z) fun _ => k
theorem s_ifT (h : Et t σ H true) (k : ∀ H', Same H H' → tu D σ H') : tIfS t tu tw D σ H := s_if h (fun _ => k) fun z => nomatch z
theorem ret_of (h : Em te σ H P) : Ret (tRet te) σ H P := fun Q q => s_ret h q
end
end WS
/-! WsD: iterables, comprehensions, for loops, the package of a def. -/
namespace WS
open PySem PySem.Spec PyProof.Rows L2

/-! ### lists under a relation -/
inductive RA {κ : Type} (r : V → κ → Prop) : List V → List κ → Prop
  | nil : RA r [] []
  | cons {v : V} {k : κ} {vs : List V} {ks : List κ} : r v k → RA r vs ks → RA r (v :: vs) (k :: ks)
theorem RA.len {κ : Type} {r : V → κ → Prop} {vs : List V} {ks : List κ} (h : RA r vs ks) : vs.length = ks.length := by
  induction h with
  | nil => rfl
  | cons _ _ ih => simp [ih]
theorem RA.imp {κ : Type} {r r' : V → κ → Prop} {vs : List V} {ks : List κ} (h : RA r vs ks) (k : ∀ v x, r v x → r' v x) : RA r' vs ks := by
  induction h with
  | nil => exact .nil
  | cons a _ ih => exact .cons (k _ _ a) ih
theorem RA.snoc {κ : Type} {r : V → κ → Prop} {vs : List V} {ks : List κ} {v : V} {k : κ} (h : RA r vs ks) (a : r v k) : RA r (vs ++ [v]) (ks ++ [k]) := by
  induction h with
  | nil => exact .cons a .nil
  | cons b _ ih => exact .cons b ih
theorem RA.get {κ : Type} {r : V → κ → Prop} {vs : List V} {ks : List κ} (h : RA r vs ks) : ∀ {i : Nat} {v : V}, vs[i]? = some v → ∃ k, ks[i]? = some k ∧ r v k := by
  induction h with
  | nil => intro i v e; simp at e
  | cons a _ ih =>
    intro i v e
    cases i with
    | zero => simp at e; subst e; exact ⟨_, rfl, a⟩
    | succ i => obtain ⟨k, h1, h2⟩ := ih (i := i) (by simpa using e); exact ⟨k, by simpa using h1, h2⟩
theorem TpA.ra {H : Hp} : ∀ {vs : List V} {ds : List PyData}, TpA H vs ds → RA (Tp H) vs ds
  | _, _, .nil => .nil
  | _, _, .cons a b => .cons a (TpA.ra b)
theorem RA.tpa {H : Hp} {vs : List V} {ds : List PyData} (h : RA (Tp H) vs ds) : TpA H vs ds := by
  induction h with
  | nil => exact .nil
  | cons a _ ih => exact .cons a ih

/-! ### heaps less some addresses -/
def dels (H : Hp) (ps : List Addr) : Hp := fun b => if b ∈ ps then none else H b
theorem dels_nil (H : Hp) : dels H [] = H := by funext b; simp [dels]
theorem dels_none {H : Hp} {ps : List Addr} {b : Addr} (h : b ∈ ps) : dels H ps b = none := by simp [dels, h]
theorem dels_some {H : Hp} {ps : List Addr} {b : Addr} (h : b ∉ ps) : dels H ps b = H b := by simp [dels, h]
theorem Same.to_dels {H H' : Hp} {ps : List Addr} (e : Same H H') : Same (dels H ps) H' := fun b o h => by
  unfold dels at h
  split at h
  · cases h
  · exact e b o h
theorem Same.dels_trans {H H1 H2 : Hp} {ps : List Addr} (a : Same (dels H ps) H1) (b : Same (dels H1 ps) H2) : Same (dels H ps) H2 := fun c o h => by
  by_cases hc : c ∈ ps
  · rw [dels_none hc] at h; cases h
  · exact b c o (by rw [dels_some hc]; exact a c o h)
theorem kp_dels {H H' : Hp} {ps : List Addr} (hp : ∀ p ∈ ps, ∃ o, H p = some o ∧ Fix o = false) (a : Same (dels H ps) H') : Kp H H' := fun b o h f => by
  by_cases hb : b ∈ ps
  · obtain ⟨o', e, f'⟩ := hp b hb
    rw [h] at e; cases e
    rw [f] at f'; cases f'
  · exact a b o (by rw [dels_some hb]; exact h)
/-- a known object that may change changes -/
theorem Same.dels_upd {H H' : Hp} {ps : List Addr} {p : Addr} {o : HO} (a : Same (dels H ps) H') (hp : p ∈ ps) : Same (dels H ps) (upd H' p o) := fun c u h => by
  by_cases hc : c ∈ ps
  · rw [dels_none hc] at h; cases h
  · rw [upd_ne (fun z => hc (by rw [z]; exact hp))]
    exact a c u h
/-- what was made after the base may change -/
theorem Same.of_dels {H0 H H' : Hp} {ps : List Addr} (e : Same H0 H) (hp : ∀ p ∈ ps, H0 p = none) (a : Same (dels H ps) H') : Same H0 H' := fun b o h => by
  refine a b o ?_
  rw [dels_some (fun z => by rw [hp b z] at h; cases h)]
  exact e b o h

/-! ### iterables -/
/-- J walks its: while what is fixed stays, and the lists at L -/
def Itb {ι : Type} (J : It) (H2 : Hp) (its : List ι) (rel : Hp → V → ι → Prop) (ok : Addr → Prop) : Prop :=
  ∃ (L : List Addr) (G : Hp → Prop) (Y : Nat → Hp → V → Hp → Prop), (∀ p ∈ L, ok p ∧ ∃ o, H2 p = some o) ∧ Walk J its.length G Y ∧
    ∀ H3, Kp H2 H3 → (∀ p ∈ L, H3 p = H2 p) → G H3 ∧ ∀ i x H4, i < its.length → Y i H3 x H4 → Same H3 H4 ∧ ∃ d, its[i]? = some d ∧ rel H4 x d
def Ei {ι : Type} (wi : TI) (σ : L2.St) (H : Hp) (its : List ι) (rel : Hp → V → ι → Prop) (ok : Addr → Prop) : Prop :=
  ∀ H1, Same H H1 → ∀ R : It → Hp → Prop, (∀ J H2, Same H1 H2 → Itb J H2 its rel ok → R J H2) → wi σ H1 R
abbrev any : Addr → Prop := fun _ => True
section
variable {K : PySem.W.Frag} {σ : L2.St} {H : Hp} {te tb : TE} {ds es : List PyData} {ok : Addr → Prop} {i j : Int}
theorem itb_list {ι : Type} {its : List ι} {rel : Hp → V → ι → Prop} (mono : ∀ H H' v k, Kp H H' → rel H v k → rel H' v k) {a : Addr} {xs : List V} (h1 : H a = some (.lst xs)) (h2 : RA (rel H) xs its) (o : ok a) : Itb (Itl K a) H its rel ok := by
  refine ⟨[a], (fun H => SqL K H a xs), (YAt xs), fun p hp => by rw [List.mem_singleton.mp hp]; exact ⟨o, _, h1⟩, by rw [← h2.len]; exact walk_list, fun H3 k e => ⟨.inl (.inl ((e a (by simp)).trans h1)), fun i x H4 _ y => ?_⟩⟩
  obtain ⟨rfl, e2⟩ := y
  obtain ⟨d, e3, r⟩ := h2.get e2
  exact ⟨.refl _, d, e3, mono _ _ _ _ k r⟩
theorem itb_tup {ι : Type} {its : List ι} {rel : Hp → V → ι → Prop} (mono : ∀ H H' v k, Kp H H' → rel H v k → rel H' v k) {a : Addr} {xs : List V} (h1 : H a = some (.tup xs)) (h2 : RA (rel H) xs its) : Itb (Itt K a) H its rel ok := by
  refine ⟨[], (fun H => SqT K H a xs), (YAt xs), fun p hp => by simp at hp, by rw [← h2.len]; exact walk_tup, fun H3 k e => ⟨.inl (.inl (k _ _ h1 rfl)), fun i x H4 _ y => ?_⟩⟩
  obtain ⟨rfl, e2⟩ := y
  obtain ⟨d, e3, r⟩ := h2.get e2
  exact ⟨.refl _, d, e3, mono _ _ _ _ k r⟩
theorem tp_mono : ∀ H H' v k, Kp H H' → Tp H v k → Tp H' v k := fun _ _ _ _ k h => h.kp k
theorem ei_list (h : El te σ H ds) : Ei (iList K te) σ H ds Tp any := fun H1 e R q => h H1 e _ fun v H2 e2 p => by
  obtain ⟨a, rfl, xs, h1, h2⟩ := p
  exact ⟨a, rfl, ⟨xs, .inl (.inl h1)⟩, q _ H2 e2 (itb_list tp_mono h1 h2.ra True.intro)⟩
/-- a list that is not p, for p is known -/
theorem ei_listF {p : Addr} {o : HO} (hp : H p = some o) (h : Eln te σ H ds) : Ei (iList K te) σ H ds Tp (· ≠ p) := fun H1 e R q => h H1 e _ fun a H2 ha e2 l => by
  obtain ⟨xs, h1, h2⟩ := l
  exact ⟨a, rfl, ⟨xs, .inl (.inl h1)⟩, q _ H2 e2 (itb_list tp_mono h1 h2.ra (fun z => by rw [z, e _ _ hp] at ha; cases ha))⟩
/-- a list at a, that is not p -/
theorem ei_listV {a p : Addr} {k : Nat} (hv : σ[k]? = some (some (.ref a))) (l : Ls H a ds) (hp : a ≠ p) : Ei (iList K (tVar k)) σ H ds Tp (· ≠ p) := fun H1 e R q => by
  obtain ⟨xs, h1, h2⟩ := l.up e
  exact ⟨.ref a, hv, a, rfl, ⟨xs, .inl (.inl h1)⟩, q _ H1 (.refl _) (itb_list tp_mono h1 h2.ra hp)⟩
theorem ei_tup (h : Ed te σ H (.tuple ds)) : Ei (iTup K te) σ H ds Tp ok := fun H1 e R q => h H1 e _ fun v H2 e2 p => by
  obtain ⟨a, xs, rfl, h1, h2⟩ := Tp.ofTup p
  exact ⟨a, rfl, ⟨xs, .inl (.inl h1)⟩, q _ H2 e2 (itb_tup tp_mono h1 h2.ra)⟩
theorem itb_rng {lo : Int} {n : Nat} : Itb (Itr lo n) H ((List.range n).map fun (k : Nat) => PyData.int (lo + (k : Int))) Tp ok := by
  refine ⟨[], (fun _ => True), (YFn fun i => .int (lo + i)), fun p hp => by simp at hp, by rw [List.length_map, List.length_range]; exact walk_range, fun H3 k e => ⟨True.intro, fun i x H4 hi y => ?_⟩⟩
  obtain ⟨rfl, e2⟩ := y
  subst e2
  have hi : i < n := by simpa using hi
  exact ⟨.refl _, .int (lo + i), by simp [hi], .int _⟩
theorem ei_rng1 (hj : -1000000 ≤ j ∧ j ≤ 1000000) (h : Ed te σ H (.int j)) : Ei (iRng1 (tCons te tNil)) σ H ((List.range j.toNat).map fun (k : Nat) => PyData.int (k : Int)) Tp ok := fun H1 e R q => h H1 e _ fun v H2 e2 p => by
  have z := itb_rng (H := H2) (ok := ok) (lo := 0) (n := j.toNat)
  simp only [Int.zero_add] at z
  exact ⟨j, by rw [Tp.ofInt p], by omega, by omega, q _ H2 e2 z⟩
theorem ei_rng2 (hi : -1000000 ≤ i ∧ i ≤ 1000000) (hj : -1000000 ≤ j ∧ j ≤ 1000000) (ha : Ed te σ H (.int i)) (hb : Ed tb σ H (.int j)) : Ei (iRng2 (tCons te (tCons tb tNil))) σ H ((List.range (j - i).toNat).map fun (k : Nat) => PyData.int (i + (k : Int))) Tp ok := fun H1 e R q =>
  ha H1 e _ fun v H2 e2 p => hb H2 (e.trans e2) _ fun u H3 e3 p3 =>
    ⟨i, j, by rw [Tp.ofInt p, Tp.ofInt p3], ⟨by omega, by omega, by omega, by omega⟩, q _ H3 (e2.trans e3) itb_rng⟩
theorem pair_new {H H' : Hp} {T : Addr} {x y : V} {d1 d2 : PyData} (hT : H T = none) (e : H' = upd H T (.tup [x, y])) (h1 : Tp H x d1) (h2 : Tp H y d2) : Same H H' ∧ Tp H' (.ref T) (.tuple [d1, d2]) := by
  subst e
  exact ⟨sm_new hT, .tup upd_same (.cons (h1.up (sm_new hT)) (.cons (h2.up (sm_new hT)) .nil))⟩
theorem ei_enumT (h : Ed te σ H (.tuple ds)) : Ei (iEnumT K (tCons te tNil)) σ H (ds.mapIdx fun i d => PyData.tuple [.int (i : Int), d]) Tp ok := fun H1 e R q => h H1 e _ fun v H2 e2 p => by
  obtain ⟨a, xs, rfl, h1, h2⟩ := Tp.ofTup p
  refine ⟨a, xs, rfl, .inl (.inl h1), q _ H2 e2 ⟨[], (fun H => SqT K H a xs), _, fun p hp => by simp at hp, by rw [List.length_mapIdx, ← h2.len]; exact walk_enumT, fun H3 k e => ⟨.inl (.inl (k _ _ h1 rfl)), fun i x H4 _ y => ?_⟩⟩⟩
  obtain ⟨T, x1, y1, rfl, hT, eH, ex, ey⟩ := y
  cases ex
  obtain ⟨d, e3, r⟩ := h2.get ey
  obtain ⟨s, t⟩ := pair_new hT eH (.int (i : Int)) (r.kp k)
  exact ⟨s, _, by simp [e3], t⟩
theorem ei_enumL (h : El te σ H ds) : Ei (iEnum K (tCons te tNil)) σ H (ds.mapIdx fun i d => PyData.tuple [.int (i : Int), d]) Tp any := fun H1 e R q => h H1 e _ fun v H2 e2 p => by
  obtain ⟨a, rfl, xs, h1, h2⟩ := p
  refine ⟨a, xs, rfl, .inl (.inl h1), q _ H2 e2 ⟨[a], (fun H => SqL K H a xs), _, fun p hp => by rw [List.mem_singleton.mp hp]; exact ⟨True.intro, _, h1⟩, by rw [List.length_mapIdx, ← h2.len]; exact walk_enum, fun H3 k e => ⟨.inl (.inl ((e a (by simp)).trans h1)), fun i x H4 _ y => ?_⟩⟩⟩
  obtain ⟨T, x1, y1, rfl, hT, eH, ex, ey⟩ := y
  cases ex
  obtain ⟨d, e3, r⟩ := h2.get ey
  obtain ⟨s, t⟩ := pair_new hT eH (.int (i : Int)) (r.kp k)
  exact ⟨s, _, by simp [e3], t⟩
theorem walk_zipT {a b : Addr} {xs ys : List V} {n : Nat} (hn : n = min xs.length ys.length) : Walk (RZ.ItzT K a b) n (fun H => SqT K H a xs ∧ SqT K H b ys) (YPair (fun i => xs[i]?) (fun i => ys[i]?)) := by
  subst hn
  refine ⟨fun i _ hi q => ?_, fun _ q => ⟨xs, ys, q.1, q.2, by omega⟩, fun i H v H' _ q y => ?_⟩
  · have h1 : i < xs.length := by omega
    have h2 : i < ys.length := by omega
    exact ⟨xs, ys, xs[i], ys[i], q.1, q.2, by simp [h1], by simp [h2]⟩
  · obtain ⟨T, x, z, h1, h2, h3, h4, h5⟩ := y
    exact ⟨T, x, z, h1, h2, h3, h4 xs q.1, h5 ys q.2⟩
theorem ei_zipT (ha : Ed te σ H (.tuple ds)) (hb : Ed tb σ H (.tuple es)) : Ei (RZ.iZipA K (tCons te (tCons tb tNil))) σ H (List.zipWith (fun d e => PyData.tuple [d, e]) ds es) Tp ok := fun H1 e R q =>
  ha H1 e _ fun v H2 e2 p => hb H2 (e.trans e2) _ fun u H3 e3 p3 => by
    obtain ⟨a, xs, rfl, h1, h2⟩ := (Tp.up p e3).ofTup
    obtain ⟨b, ys, rfl, k1, k2⟩ := Tp.ofTup p3
    refine ⟨a, b, xs, ys, rfl, .inr ⟨.inl (.inl h1), .inl (.inl k1), q _ H3 (e2.trans e3) ⟨[], (fun H => SqT K H a xs ∧ SqT K H b ys), (YPair (fun i => xs[i]?) (fun i => ys[i]?)), fun p hp => by simp at hp, by rw [List.length_zipWith, ← h2.len, ← k2.len]; exact walk_zipT rfl, fun H3 k e => ⟨⟨.inl (.inl (k _ _ h1 rfl)), .inl (.inl (k _ _ k1 rfl))⟩, fun i x H4 _ y => ?_⟩⟩⟩⟩
    obtain ⟨T, x1, y1, rfl, hT, eH, ex, ey⟩ := y
    obtain ⟨d, e3, r⟩ := h2.get ex
    obtain ⟨d', e4, r'⟩ := k2.get ey
    obtain ⟨s, t⟩ := pair_new hT eH (r.kp k) (r'.kp k)
    exact ⟨s, _, by rw [List.getElem?_zipWith, e3, e4], t⟩
end

/-! ### a comprehension -/
section
variable {σ : L2.St} {H : Hp} {wi : TI} {g : TG} {tt : TT} {te : TE} {vs : List Nat}
theorem take_succ' {α : Type} {l : List α} {i : Nat} {d : α} (h : l[i]? = some d) : l.take (i + 1) = l.take i ++ [d] := by
  rw [List.take_succ, h, Option.toList_some]
theorem fm_snoc {α β : Type} {f : α → Option β} {l : List α} {i : Nat} {d : α} (h : l[i]? = some d) : (l.take (i + 1)).filterMap f = (l.take i).filterMap f ++ (f d).toList := by
  rw [take_succ' h, List.filterMap_append]
  cases q : f d <;> simp [q]
theorem fm_len {α β : Type} {f : α → Option β} {l : List α} {i : Nat} {d : α} {k : β} (h : l[i]? = some d) (hk : f d = some k) : ((l.take i).filterMap f).length < (l.filterMap f).length := by
  have e : l.filterMap f = (l.take (i + 1)).filterMap f ++ (l.drop (i + 1)).filterMap f := by rw [← List.filterMap_append, List.take_append_drop]
  rw [e, fm_snoc h, hk, Option.toList_some, List.length_append, List.length_append, List.length_singleton]
  omega
theorem lc_gen {ι κ : Type} {its : List ι} {rel : Hp → V → ι → Prop} {f : ι → Option κ} {rel' : Hp → V → κ → Prop} (mono : ∀ H H' v k, Kp H H' → rel' H v k → rel' H' v k) (hz : (its.filterMap f).length ≤ 100000)
    (hi : Ei wi σ H its rel any)
    (hb : ∀ it, it ∈ its → ∀ x H1, Same H H1 → rel H1 x it → ∃ σ2, (∀ Q : L2.St → Hp → Prop, Q σ2 H1 → g x (wipe σ vs) H1 Q) ∧ wipe σ2 vs = wipe σ vs ∧
      ((f it = none ∧ Et tt σ2 H1 false) ∨ ∃ k, f it = some k ∧ Et tt σ2 H1 true ∧ Em te σ2 H1 (fun v H => rel' H v k))) :
    ∀ H1, Same H H1 → ∀ Q : VK, (∀ p H2, H1 p = none → Same H1 H2 → (∃ xs, H2 p = some (.lst xs) ∧ RA (rel' H2) xs (its.filterMap f)) → Q (.ref p) H2) → tLc wi g tt te vs σ H1 Q := by
  intro H1 e1 Q q
  refine hi H1 e1 _ fun J H2 e2 ⟨L, G, Y, hL, w, hG⟩ D hD => ?_
  have gd : ∀ H3, Same H2 H3 → G H3 ∧ ∀ i x H4, i < its.length → Y i H3 x H4 → Same H3 H4 ∧ ∃ d, its[i]? = some d ∧ rel H4 x d := fun H3 e3 => hG H3 (.of e3) fun p hp => by
    obtain ⟨_, o, ho⟩ := hL p hp
    rw [ho]; exact e3 _ _ ho
  refine lc_it w (fun i H' => Same H2 H' ∧ ∃ acc, H' D = some (.lst acc) ∧ RA (rel' H') acc ((its.take i).filterMap f)) ⟨sm_new hD, [], upd_same, by rw [List.take_zero]; exact .nil⟩ (fun i H' _ h => (gd H' h.1).1) (fun i x H3 H4 hi3 ⟨s3, acc, hacc, ra⟩ y => ?_) (fun H' ⟨s3, acc, hacc, ra⟩ => ?_)
  · obtain ⟨s4, d, hd, r⟩ := (gd H3 s3).2 i x H4 hi3 y
    obtain ⟨σ2, hg, hw, ht⟩ := hb d (List.mem_of_getElem? hd) x H4 (((e1.trans e2).trans s3).trans s4) r
    refine hg _ ⟨hw, ?_⟩
    rcases ht with ⟨hf, ht⟩ | ⟨k, hf, ht, he⟩
    · refine ht H4 (.refl _) _ fun H5 s5 => iteF ⟨(s3.trans s4).trans s5, acc, s5 _ _ (s4 _ _ hacc), ?_⟩
      rw [fm_snoc hd, hf]
      simp only [Option.toList_none, List.append_nil]
      exact ra.imp fun v k h => mono _ _ _ _ (.of (s4.trans s5)) h
    · refine ht H4 (.refl _) _ fun H5 s5 => iteT (he H5 s5 _ fun y H6 s6 r6 => ?_)
      have hD6 : H6 D = some (.lst acc) := s6 _ _ (s5 _ _ (s4 _ _ hacc))
      refine ⟨acc, hD6, ?_, sm_mut (((s3.trans s4).trans s5).trans s6) hD, _, upd_same, ?_⟩
      · rw [ra.len]
        exact sz_lt (Nat.lt_of_lt_of_le (fm_len hd hf) hz)
      · rw [fm_snoc hd, hf]
        have kp : Kp H6 (upd H6 D (.lst (acc ++ [y]))) := .upd hD6 rfl
        exact (ra.imp fun v k h => mono _ _ _ _ (.of ((s4.trans s5).trans s6)) h).snoc r6 |>.imp fun v k h => mono _ _ _ _ kp h
  · rw [List.take_length] at ra
    exact q D H' (e2.free hD) (e2.trans s3) ⟨acc, hacc, ra⟩
/-- of data, no test fails or some do -/
theorem eln_lc {ι : Type} {its : List ι} {rel : Hp → V → ι → Prop} (f : ι → Option PyData) (hz : (its.filterMap f).length ≤ 100000)
    (hi : Ei wi σ H its rel any)
    (hb : ∀ it, it ∈ its → ∀ x H1, Same H H1 → rel H1 x it → ∃ σ2, (∀ Q : L2.St → Hp → Prop, Q σ2 H1 → g x (wipe σ vs) H1 Q) ∧ wipe σ2 vs = wipe σ vs ∧
      ((f it = none ∧ Et tt σ2 H1 false) ∨ ∃ k, f it = some k ∧ Et tt σ2 H1 true ∧ Ed te σ2 H1 k)) : Eln (tLc wi g tt te vs) σ H (its.filterMap f) := fun H1 e Q q =>
  lc_gen (rel' := Tp) tp_mono hz hi hb H1 e Q fun p H2 hp e2 ⟨xs, h1, h2⟩ => q p H2 hp e2 ⟨xs, h1, h2.tpa⟩
/-- no test -/
theorem eln_map {ι : Type} {its : List ι} {rel : Hp → V → ι → Prop} (f : ι → PyData) (hz : its.length ≤ 100000)
    (hi : Ei wi σ H its rel any)
    (hb : ∀ it, it ∈ its → ∀ x H1, Same H H1 → rel H1 x it → ∃ σ2, (∀ Q : L2.St → Hp → Prop, Q σ2 H1 → g x (wipe σ vs) H1 Q) ∧ wipe σ2 vs = wipe σ vs ∧ Ed te σ2 H1 (f it)) : Eln (tLc wi g tYes te vs) σ H (its.map f) := by
  have z := eln_lc (tt := tYes) (te := te) (fun x => some (f x)) (by simpa using hz) hi fun it hm x H1 e r => by
    obtain ⟨σ2, h1, h2, h3⟩ := hb it hm x H1 e r
    exact ⟨σ2, h1, h2, .inr ⟨_, rfl, et_yes, h3⟩⟩
  have e : its.filterMap (fun x => some (f x)) = its.map f := by
    rw [← List.filterMap_eq_map]; rfl
  rw [e] at z
  exact z
/-- [x for x in its if p x] -/
theorem eln_filter {ι : Type} {its : List ι} {rel : Hp → V → ι → Prop} (f : ι → PyData) (p : ι → Bool) (hz : its.length ≤ 100000)
    (hi : Ei wi σ H its rel any)
    (hb : ∀ it, it ∈ its → ∀ x H1, Same H H1 → rel H1 x it → ∃ σ2, (∀ Q : L2.St → Hp → Prop, Q σ2 H1 → g x (wipe σ vs) H1 Q) ∧ wipe σ2 vs = wipe σ vs ∧ Et tt σ2 H1 (p it) ∧ (p it = true → Ed te σ2 H1 (f it))) : Eln (tLc wi g tt te vs) σ H ((its.filter p).map f) := by
  have z := eln_lc (tt := tt) (te := te) (fun x => if p x then some (f x) else none) (Nat.le_trans (List.length_filterMap_le _ _) hz) hi fun it hm x H1 e r => by
    obtain ⟨σ2, h1, h2, h3, h4⟩ := hb it hm x H1 e r
    refine ⟨σ2, h1, h2, ?_⟩
    cases hp : p it with
    | true => rw [hp] at h3; exact .inr ⟨f it, by simp, h3, h4 hp⟩
    | false => rw [hp] at h3; exact .inl ⟨by simp, h3⟩
  have e : its.filterMap (fun x => if p x then some (f x) else none) = (its.filter p).map f := by
    clear z hb hi hz
    induction its with
    | nil => rfl
    | cons a r ih => cases h : p a <;> simp [h, ih]
  rw [e] at z
  exact z
/-- two clauses, the inner a range -/
theorem eln_lc2 {ι : Type} {its : List ι} {rel : Hp → V → ι → Prop} {g1 : TG} {vs1 : List Nat} {tg : TE} (m : ι → Int) (f : ι → Int → PyData) (hm : ∀ it ∈ its, m it ≤ 1000 ∧ -1000 ≤ m it) (hz : (its.flatMap fun it => (List.range (m it).toNat).map fun (k : Nat) => f it (k : Int)).length ≤ 100000)
    (hi : Ei wi σ H its rel any)
    (hb : ∀ it, it ∈ its → ∀ x H1, Same H H1 → rel H1 x it → ∃ σ2, (∀ Q : L2.St → Hp → Prop, Q σ2 H1 → g x (wipe σ vs) H1 Q) ∧ wipe σ2 vs = wipe σ vs ∧ Ed tg σ2 H1 (.int (m it)) ∧
      ∀ k : Nat, k < (m it).toNat → ∀ H2, Kp H1 H2 → Same H H2 → ∃ σ3, (∀ Q : L2.St → Hp → Prop, Q σ3 H2 → g1 (.int (k : Int)) (wipe σ2 vs1) H2 Q) ∧ wipe σ3 vs1 = wipe σ2 vs1 ∧ Ed te σ3 H2 (f it (k : Int))) :
    Eln (tLc2 wi g tYes (iRng1 (tCons tg tNil)) g1 tYes te vs vs1) σ H (its.flatMap fun it => (List.range (m it).toNat).map fun (k : Nat) => f it (k : Int)) := by
  intro H1 e1 Q q
  refine hi H1 e1 _ fun J H2 e2 ⟨L, G, Y, hL, w, hG⟩ D hD => ?_
  have gd : ∀ H3, Same H2 H3 → G H3 ∧ ∀ i x H4, i < its.length → Y i H3 x H4 → Same H3 H4 ∧ ∃ d, its[i]? = some d ∧ rel H4 x d := fun H3 e3 => hG H3 (.of e3) fun p hp => by
    obtain ⟨_, o, ho⟩ := hL p hp
    rw [ho]; exact e3 _ _ ho
  let F : ι → List PyData := fun it => (List.range (m it).toNat).map fun (k : Nat) => f it (k : Int)
  have hz : (its.flatMap F).length ≤ 100000 := hz
  -- the invariant
  let Pv : Nat → Hp → Prop := fun i H' => Same H2 H' ∧ ∃ acc, H' D = some (.lst acc) ∧ TpA H' acc ((its.take i).flatMap F)
  refine ⟨fun i n H' => n = its.length - i ∧ i ≤ its.length ∧ Pv i H', ⟨its.length, by simp, Nat.zero_le _, sm_new hD, [], upd_same, by rw [List.take_zero]; exact .nil⟩, ?_⟩
  rintro i n H3 ⟨rfl, hi3, s3, acc, hacc, ra⟩
  have g3 := gd H3 s3
  by_cases hlt : ¬ i < its.length
  · have ei : i = its.length := by omega
    subst ei
    rw [List.take_length] at ra
    exact .inl ⟨w.stops H3 g3.1, q D H3 (e2.free hD) (e2.trans s3) ⟨acc, hacc, ra⟩⟩
  have hlt : i < its.length := Classical.not_not.mp hlt
  refine .inr ⟨w.goes i H3 hlt g3.1, Pv (i + 1), fun H' p' => ⟨its.length - (i + 1), by omega, rfl, hlt, p'⟩, fun x H4 y => ?_⟩
  obtain ⟨s4, d, hd, r⟩ := g3.2 i x H4 hlt (w.yields i H3 x H4 hlt g3.1 y)
  have hdm : d ∈ its := List.mem_of_getElem? hd
  obtain ⟨σ2, hg, hw, htg, hin⟩ := hb d hdm x H4 (((e1.trans e2).trans s3).trans s4) r
  refine hg _ ⟨hw, ?_⟩
  unfold tYes
  dsimp only
  rw [if_pos rfl]
  refine htg H4 (.refl _) _ fun v H5 s5 p5 => ⟨m d, by rw [Tp.ofInt p5], by have := (hm d hdm).2; omega, by have := (hm d hdm).1; omega, ?_⟩
  have base : ∀ n : Nat, n ≤ (m d).toNat → ((its.take i).flatMap F ++ (List.range n).map fun (k : Nat) => f d (k : Int)).length ≤ (its.flatMap F).length := fun n hn => by
    have e : its.flatMap F = (its.take i).flatMap F ++ (F d ++ (its.drop (i + 1)).flatMap F) := by
      have e0 : its = its.take i ++ d :: its.drop (i + 1) := by
        have z := (List.take_append_drop (i + 1) its).symm
        rw [take_succ' hd, List.append_assoc] at z
        exact z
      calc its.flatMap F = (its.take i ++ d :: its.drop (i + 1)).flatMap F := by rw [← e0]
        _ = _ := by rw [List.flatMap_append, List.flatMap_cons]
    rw [e]
    simp [F]
    omega
  let Pw : Nat → Hp → Prop := fun j H' => Same H2 H' ∧ Kp H5 H' ∧ ∃ acc, H' D = some (.lst acc) ∧ TpA H' acc ((its.take i).flatMap F ++ (List.range j).map fun (k : Nat) => f d (k : Int))
  refine ⟨fun j n H' => n = (m d).toNat - j ∧ j ≤ (m d).toNat ∧ Pw j H', ⟨(m d).toNat, by simp, Nat.zero_le _, (s3.trans s4).trans s5, .refl _, acc, s5 _ _ (s4 _ _ hacc), ?_⟩, ?_⟩
  · rw [List.range_zero, List.map_nil, List.append_nil]
    exact ra.up (s4.trans s5)
  rintro j n H6 ⟨rfl, hj6, s6, k6, acc6, hacc6, ra6⟩
  by_cases hjl : ¬ j < (m d).toNat
  · have ej : j = (m d).toNat := by omega
    subst ej
    refine .inl ⟨show (m d).toNat ≤ (m d).toNat from Nat.le_refl _, s6, acc6, hacc6, ?_⟩
    rw [take_succ' hd, List.flatMap_append, List.flatMap_cons, List.flatMap_nil, List.append_nil]
    exact ra6
  have hjl : j < (m d).toNat := Classical.not_not.mp hjl
  refine .inr ⟨hjl, Pw (j + 1), fun H' p' => ⟨(m d).toNat - (j + 1), by omega, rfl, hjl, p'⟩, fun x H7 y => ?_⟩
  obtain ⟨rfl, ex⟩ := y
  subst ex
  obtain ⟨σ3, hg1, hw1, he⟩ := hin j hjl H7 ((Kp.of s5).trans k6) ((e1.trans e2).trans s6)
  rw [Int.zero_add]
  refine hg1 _ ⟨hw1, ?_⟩
  rw [if_pos rfl]
  refine (he H7 (.refl _) _ fun y H8 s8 r8 => ?_)
  have hD8 : H8 D = some (.lst acc6) := s8 _ _ hacc6
  have kp : Kp H8 (upd H8 D (.lst (acc6 ++ [y]))) := .upd hD8 rfl
  refine ⟨acc6, hD8, ?_, sm_mut (s6.trans s8) hD, (k6.trans (.of s8)).trans kp, _, upd_same, ?_⟩
  · have h1 := base (j + 1) hjl
    rw [ra6.len]
    refine sz_lt (Nat.lt_of_lt_of_le ?_ (Nat.le_trans h1 hz))
    rw [List.range_succ, List.map_append]
    simp
  · rw [List.range_succ, List.map_append, ← List.append_assoc]
    exact ((ra6.up s8).snoc r8).kp kp
end

/-! ### a for loop; ps may change -/
section
variable {σ : L2.St} {H : Hp} {wi : TI} {g : TG} {tb : TS} {D : Ends}
theorem for_go {ι : Type} {its : List ι} {rel : Hp → V → ι → Prop} (ps : List Addr) (hps : ∀ p ∈ ps, ∃ o, H p = some o ∧ Fix o = false) (hi : Ei wi σ H its rel (· ∉ ps)) (Pv : Nat → L2.St → Hp → Prop) (h0 : ∀ H', Same H H' → Pv 0 σ H')
    (hs : ∀ i d, its[i]? = some d → ∀ x σ1 H0 H1, Same (dels H ps) H0 → Pv i σ1 H0 → Same H0 H1 → rel H1 x d → ∀ Nx : L2.St → Hp → Prop, (∀ σ' H', Same (dels H1 ps) H' → Pv (i + 1) σ' H' → Nx σ' H') → g x σ1 H1 fun σ2 H2 => tb { D with nx := Nx, ct := Nx, bk := D.nx } σ2 H2)
    (hd : ∀ σ' H', Same (dels H ps) H' → Pv its.length σ' H' → D.nx σ' H') : tFor wi g tb D σ H := by
  refine hi H (.refl _) _ fun J H2 e2 ⟨L, G, Y, hL, w, hG⟩ => ?_
  have hps2 : ∀ p ∈ ps, ∃ o, H2 p = some o ∧ Fix o = false := fun p hp => by
    obtain ⟨o, h1, h2⟩ := hps p hp
    exact ⟨o, e2 _ _ h1, h2⟩
  have up : ∀ H3, Same (dels H2 ps) H3 → Same (dels H ps) H3 := fun H3 e3 => fun b o h => by
    by_cases hb : b ∈ ps
    · rw [dels_none hb] at h; cases h
    · rw [dels_some hb] at h
      exact e3 b o (by rw [dels_some hb]; exact e2 b o h)
  have gd : ∀ H3, Same (dels H2 ps) H3 → G H3 ∧ ∀ i x H4, i < its.length → Y i H3 x H4 → Same H3 H4 ∧ ∃ d, its[i]? = some d ∧ rel H4 x d := fun H3 e3 => hG H3 (kp_dels hps2 e3) fun p hp => by
    obtain ⟨np, o, ho⟩ := hL p hp
    rw [ho]; exact e3 _ _ (by rw [dels_some np]; exact ho)
  refine for_it w (fun i σ' H' => Same (dels H2 ps) H' ∧ Pv i σ' H') ⟨Same.to_dels (Same.refl H2), h0 H2 e2⟩ (fun i σ' H' _ h => (gd H' h.1).1) (fun i x σ1 H3 H4 hi3 ⟨s3, pv⟩ y => ?_) fun σ' H' ⟨s, p⟩ => hd σ' H' (up H' s) p
  obtain ⟨s4, d, hdd, r⟩ := (gd H3 s3).2 i x H4 hi3 y
  refine hs i d hdd x σ1 H3 H4 (up H3 s3) pv s4 r _ fun σ' H' s' p' => ⟨Same.dels_trans s3 fun b o h => ?_, p'⟩
  by_cases hb : b ∈ ps
  · rw [dels_none hb] at h; cases h
  · rw [dels_some hb] at h
    exact s' b o (by rw [dels_some hb]; exact s4 b o h)
/-- nothing known changes -/
theorem for_pure {ι : Type} {its : List ι} {rel : Hp → V → ι → Prop} (hi : Ei wi σ H its rel any) (Pv : Nat → L2.St → Hp → Prop) (h0 : ∀ H', Same H H' → Pv 0 σ H')
    (hs : ∀ i d, its[i]? = some d → ∀ x σ1 H0 H1, Same H H0 → Pv i σ1 H0 → Same H0 H1 → rel H1 x d → ∀ Nx : L2.St → Hp → Prop, (∀ σ' H', Same H1 H' → Pv (i + 1) σ' H' → Nx σ' H') → g x σ1 H1 fun σ2 H2 => tb { D with nx := Nx, ct := Nx, bk := D.nx } σ2 H2)
    (hd : ∀ σ' H', Same H H' → Pv its.length σ' H' → D.nx σ' H') : tFor wi g tb D σ H := by
  have hi' : Ei wi σ H its rel (· ∉ ([] : List Addr)) := fun H1 e R q => hi H1 e R fun J H2 e2 ⟨L, G, Y, hL, w, hG⟩ => q J H2 e2 ⟨L, G, Y, fun p hp => ⟨by simp, (hL p hp).2⟩, w, hG⟩
  refine for_go [] (fun p hp => by simp at hp) hi' Pv h0 (fun i d hd' x σ1 H0 H1 e p s r Nx n => hs i d hd' x σ1 H0 H1 (by rw [dels_nil] at e; exact e) p s r Nx fun σ' H' s' p' => n σ' H' (by rw [dels_nil]; exact s') p') fun σ' H' s p => hd σ' H' (by rw [dels_nil] at s; exact s) p
end
end WS
/-! WsE: sorted of a tuple of ints; the package of a def. -/
namespace WS
open PySem PySem.Spec PyProof.Rows L2
section
variable {X : Cx}
theorem ws_sorted_tup {prog : Program} {w : World} {A : Around} {E : Value → Shared → Prop} {s : Shared} {l : Addr} {vs : List Value} {ns : List Int} {Q : Value → Shared → Prop} (hl : s.heap.IsTuple l vs.toArray) (hI : IntsAre vs ns) (hL : vs.length ≤ sizeLine)
    (h : ∀ (h1 h' : Heap) (out : Array Value) (n : Nat) (ns' : List Int), (∀ b o, s.heap.get? b = some o → h1.get? b = some o) → (∀ b o, h1.get? b = some o → h'.get? b = some o) → h'.get? h1.objs.size = some (seqObj "list" out n) → IntsAre out.toList ns' → ns'.Perm ns → ns'.Pairwise (· ≤ ·) → Q (.ref h1.objs.size) { s with heap := h' }) :
    wpAny (model prog w) A (call (.builtin "sorted") [.ref l]) Q E s := by
  obtain ⟨o, ho, hc, n, hd⟩ := id hl
  refine Calls.call_function_entry kind_sorted plain_sorted entry_sorted (args_sorted1 _) ?_
  unfold Builtin.«sorted»
  refine wpAny_bind (m := checkCount "sorted" 1 1 _) (wpAny_pure ?_)
  refine wpAny_bind (wpAny_collect_seq l (.inr rfl) ho hc hd (fun h1 k1 => ?_) (by rw [List.size_toArray]; exact hL))
  rw [show vs.toArray.toList = vs from rfl]
  refine wpAny_bind (PySem.wpAny_newList ?_ hL)
  have hoL : (h1.push (seqObj "list" vs.toArray 0)).get? h1.objs.size = some (seqObj "list" vs.toArray 0) := Heap.get?_push_size _ rfl
  refine wpAny_bind (wpAny_holding (wpAny_call_entry slot_list_sort ⟨_, hoL, rfl⟩ entry_list_sort (list_sort_treeAny (n := 0) hoL hI hL fun out ns' a1 a2 a3 => ⟨_, rfl, ?_⟩) (args_list_sort _)))
  obtain ⟨m, hm⟩ := sortedHeap_at (out := out) hoL
  refine wpAny_pure ⟨_, rfl, h h1 _ out m ns' k1 (fun b o e => ?_) hm a1 a2 a3⟩
  have hlt : b < h1.objs.size := Heap.lt_size e
  rw [sortedHeap_old (Nat.ne_of_lt hlt) (by rw [size_push']; exact Nat.lt_succ_of_lt hlt)]
  exact Heap.get?_push_of_some _ e
def rSortT (K : PySem.W.Frag) : List V → Hp → VK → Prop := fun vs H Q => ∃ (a : Addr) (ns : List Int), vs = [V.ref a] ∧ SqT K H a (ns.map V.int) ∧
  ∀ (ns' : List Int) (p : Addr), ns'.Perm ns → ns'.Pairwise (· ≤ ·) → H p = none → Q (.ref p) (upd H p (.lst (ns'.map V.int)))
theorem cr_sortT : CallR X (.builtin "sorted") (rSortT X.K) := by
  intro pins s σ H vs us Q I r h
  obtain ⟨a, ns, rfl, hs, q⟩ := h
  obtain ⟨its, rv, hl, hz⟩ := I.tuple hs
  rw [Vals.ref1 r]
  have hi := rv.ints
  have hlen := rv.length
  refine ws_sorted_tup hl hi (by omega) fun h1 h' out n ns' k1 k2 ho h2 h3 h4 => ?_
  have I1 : Inv X pins σ H { s with heap := h1 } := I.kept (t' := s.toks) k1
  have hl' : (ns'.map V.int).length ≤ sizeLine := by
    rw [List.length_map, h3.length_eq]
    rw [List.length_map] at hz
    exact hz
  exact ⟨.ref _, upd H h1.objs.size (.lst (ns'.map V.int)), I1.laid (t' := s.toks) (h' := h') k2 (Nat.le_refl _) ⟨hl', out.toList, n, vals_of_ints h2, ho⟩, rfl, q ns' _ h3 h4 (I1.hok.fresh (Nat.le_refl _))⟩
end
/-- a sorted list of ints is the one sorted list -/
theorem sorted_uniq : ∀ {a b : List Int}, a.Perm b → a.Pairwise (· ≤ ·) → b.Pairwise (· ≤ ·) → a = b := fun p h1 h2 => p.eq_of_pairwise (fun a b _ _ x y => Int.le_antisymm x y) h1 h2

/-! ### readings by name, their fragment given -/
abbrev rLenQ (K : PySem.W.Frag) : List V → Hp → VK → Prop := fun xs H Q => ∃ p ys, xs = [.ref p] ∧ (SqL K H p ys ∨ SqT K H p ys) ∧ Q (.int ys.length) H
abbrev rListQ (K : PySem.W.Frag) : List V → Hp → VK → Prop := fun xs H Q => ∃ p ys, xs = [.ref p] ∧ (SqL K H p ys ∨ SqT K H p ys) ∧ ∀ l, H l = none → Q (.ref l) (upd H l (.lst ys))
abbrev rTupQ (K : PySem.W.Frag) : List V → Hp → VK → Prop := fun xs H Q => ∃ p ys, xs = [.ref p] ∧ ((SqL K H p ys ∧ ∀ l, H l = none → Q (.ref l) (upd H l (.tup ys))) ∨ (SqT K H p ys ∧ Q (.ref p) H))
theorem ws_star {X : Cx} {K : PySem.W.Frag} {e : Expr} {es : List Expr} {te : TE} {t : TA} {p : Pos} (hK : X.K = K) (he : PE X e te) (hr : PA X es t) (hs : starEach (.Starred e p :: es) X.env = (true, eval e X.env) :: starEach es X.env := by rfl) : PA X (.Starred e p :: es) (StX.tStar K te t) := by
  subst hK
  exact StX.pa_star he hr hs
theorem ws_pair {X : Cx} {K : PySem.W.Frag} {x y : PySem.Str} {p q pos : Pos} {k : Nat} {t1 t2 : TG} (hK : X.K = K) (hc : X.calm = true) (h1 : PG X (.Name x p) t1) (h2 : PG X (.Name y q) t2) : PG X (.Tuple [.Name x p, .Name y q] k pos) (gTup K 2 (gCons t1 (gCons t2 gNil))) := by
  subst hK
  exact pg_tup hc (pgs_cons h1 (pgs_cons h2 pgs_nil))
/-- the target of a comprehension is a name -/
theorem hb_name {i : Nat} {x : V} {σ : L2.St} {vs : List Nat} {H1 : Hp} {R : L2.St → Prop} (h : wipe ((wipe σ vs).set i (some x)) vs = wipe σ vs) (k : R ((wipe σ vs).set i (some x))) :
    ∃ σ2, (∀ Q : L2.St → Hp → Prop, Q σ2 H1 → gName i x (wipe σ vs) H1 Q) ∧ wipe σ2 vs = wipe σ vs ∧ R σ2 := ⟨_, fun _ q => q, h, k⟩
/-- .. a pair of names -/
theorem hb_pair {K : PySem.W.Frag} {i j : Nat} {x : V} {d1 d2 : PyData} {σ : L2.St} {vs : List Nat} {H1 : Hp} {R : L2.St → Prop} (hx : Tp H1 x (.tuple [d1, d2])) (h : ∀ a b, wipe (((wipe σ vs).set i (some a)).set j (some b)) vs = wipe σ vs) (k : ∀ a b, Tp H1 a d1 → Tp H1 b d2 → R (((wipe σ vs).set i (some a)).set j (some b))) :
    ∃ σ2, (∀ Q : L2.St → Hp → Prop, Q σ2 H1 → gTup K 2 (gCons (gName i) (gCons (gName j) gNil)) x (wipe σ vs) H1 Q) ∧ wipe σ2 vs = wipe σ vs ∧ R σ2 := by
  obtain ⟨a, xs, rfl, h1, h2⟩ := hx.ofTup
  obtain ⟨u, v, rfl, t1, t2⟩ := tpa2 h2
  exact ⟨_, fun Q q => ⟨a, [u, v], rfl, .inl (.inl h1), rfl, u, [v], rfl, v, [], rfl, rfl, q⟩, h u v, k u v t1 t2⟩
/-- a pair taken apart -/
theorem g_pair {K : PySem.W.Frag} {i j : Nat} {x : V} {d1 d2 : PyData} {σ : L2.St} {H1 : Hp} {Q : L2.St → Hp → Prop} (hx : Tp H1 x (.tuple [d1, d2])) (k : ∀ a b, Tp H1 a d1 → Tp H1 b d2 → Q ((σ.set i (some a)).set j (some b)) H1) :
    gTup K 2 (gCons (gName i) (gCons (gName j) gNil)) x σ H1 Q := by
  obtain ⟨a, xs, rfl, h1, h2⟩ := hx.ofTup
  obtain ⟨u, v, rfl, t1, t2⟩ := tpa2 h2
  exact ⟨a, [u, v], rfl, .inl (.inl h1), rfl, u, [v], rfl, v, [], rfl, rfl, k u v t1 t2⟩

/-! ### the package of a def -/
abbrev topS (i : Nat) : Stmt := PySem.Challenge.pw_wordshapes_k54_whole_tables_of_told_amou.main.body.getD i (.Pass ⟨0, 0, 0, 0⟩)
def Md (K : PySem.W.Frag) (mg : PySem.Str → Option Value) (x : PySem.Str) (st : Stmt) : Prop := ∃ f fd, mg x = some (.ref f) ∧ Fun K x x st f fd
def Dv (P : Program) (w : World) (K : PySem.W.Frag) (mg : PySem.Str → Option Value) (base : Heap) (x : PySem.Str) (k : Nat) (ps : List PySem.Str) (sp : Sp) : Prop :=
  ∃ f fd, mg x = some (.ref f) ∧ PySem.W.keepIn K (.ref f) = true ∧ Binds K fd ps [] ∧ (∃ oc od osl, K.lookup f = some ⟨oc, od, .func fd, osl⟩) ∧ FnOk P w K mg base CX0 k f fd ps sp
/-- f(a, ..) -/
theorem pe_cd {X : Cx} {k : Nat} {ps : List PySem.Str} {sp : Sp} {x : PySem.Str} {p pos : Pos} {e : Expr} {es : List Expr} {t : TA} (D : Dv X.prog X.w X.K X.mg X.base x k ps sp) (hr : Room k X.A) (hg : Gl X x) (ha : PA X (e :: es) t) (hd : (x == ("__debug__" : PySem.Str)) = false := by decide)
    (he : starEach (e :: es) X.env = (false, eval e X.env) :: starEach es X.env := by rfl) (hpl : (backTo pos (starEach es X.env)).any (·.1) = false := by rfl) : PE X (.Call (.Name x p) (e :: es) [] pos) (tCall sp [] E0 t) := by
  obtain ⟨f, fd, hm, hk, hb, _, F⟩ := D
  exact pe_call F hr hg hm hk hb .nil pass0 ha hd he hpl
abbrev BindsAt (x : PySem.Str) (st : Stmt) (ps : List PySem.Str) : Prop := ∀ (kV doc pm : Value) (an : Option Addr) (cdv ct : Value) (us : List Value), us.length = ps.length → bindArgs (PySem.W.fnOf x x (defArgs st) (defBody st) (defScope st) .none kV doc pm an cdv ct) ⟨us, []⟩ = pure (ps.zip us)
/-- the def keeps its promise, for every case -/
theorem dv_mk {P : Program} {w : World} {K : PySem.W.Frag} {mg : PySem.Str → Option Value} {base : Heap} {x : PySem.Str} {st : Stmt} {N ps : List PySem.Str} {k : Nat} {sp : Sp} (M : Md K mg x st) (S : FnScope N ps (defScope st)) (hb : BindsAt x st ps)
    (hl : ∀ vs H Q E, sp vs H Q E → vs.length = ps.length)
    (hbody : ∀ (f : Addr) (cdv : Value) (A : Around) (outer : List Env) (s : Shared) (H : Hp) (E : XK), Room k (A.deeper (envOfC x (defScope st) s.heap.objs.size f cdv)) →
      ∃ t, PSs (cxOf CX0 P w K mg base N x (defScope st) f cdv A outer s H E).nox (defBody st) t ∧ ∀ vs Q, sp vs H Q E → t { nx := fun _ H' => Q .non H', rt := Q } (start N vs) H) : Dv P w K mg base x (k + 1) ps sp := by
  obtain ⟨f, fd, hm, F⟩ := M
  have lk : ∃ oc od osl, K.lookup f = some ⟨oc, od, .func fd, osl⟩ := by
    obtain ⟨oc, od, _, _, _, _, _, _, osl, _, lk, _⟩ := F.ex
    exact ⟨oc, od, osl, lk⟩
  refine ⟨f, fd, hm, F.kp, F.binds hb, lk, F.ok S hl fun cdv A outer s H vs Q E hr hsp => ?_⟩
  obtain ⟨t, h1, h2⟩ := hbody f cdv A outer s H E hr
  exact ⟨t, h1, h2 vs Q hsp⟩
theorem dv_pr {P : Program} {w : World} {K : PySem.W.Frag} {mg : PySem.Str → Option Value} {base : Heap} {x : PySem.Str} {st : Stmt} {N ps : List PySem.Str} {k : Nat} {ι : Type} {args : ι → List PyData} {pre : ι → Prop} {res : ι → V → Hp → Prop} (M : Md K mg x st) (S : FnScope N ps (defScope st)) (hb : BindsAt x st ps)
    (hl : ∀ i, (args i).length = ps.length)
    (hbody : ∀ (f : Addr) (cdv : Value) (A : Around) (outer : List Env) (s : Shared) (H : Hp) (E : XK), Room k (A.deeper (envOfC x (defScope st) s.heap.objs.size f cdv)) →
      ∃ t, PSs (cxOf CX0 P w K mg base N x (defScope st) f cdv A outer s H E).nox (defBody st) t ∧ ∀ i vs, TpA H vs (args i) → pre i → Ret t (start N vs) H (res i)) : Dv P w K mg base x (k + 1) ps (Pr args pre res) := by
  refine dv_mk M S hb (fun vs H Q E ⟨i, t, _⟩ => by rw [t.len]; exact hl i) fun f cdv A outer s H E hr => ?_
  obtain ⟨t, h1, h2⟩ := hbody f cdv A outer s H E hr
  exact ⟨t, h1, fun vs Q ⟨i, t1, p, q⟩ => h2 i vs t1 p Q q⟩
/-- a promise of a new list -/
def Prn {ι : Type} (args : ι → List PyData) (pre : ι → Prop) (ds : ι → List PyData) : Sp := fun vs H Q _ => ∃ i, TpA H vs (args i) ∧ pre i ∧ ∀ p H', H p = none → Same H H' → Ls H' p (ds i) → Q (.ref p) H'
theorem eln_call {ι : Type} {args : ι → List PyData} {pre : ι → Prop} {ds : ι → List PyData} {σ : L2.St} {H : Hp} {ta : TA} {E : XK} (i : ι) (p : pre i) (h : Ea ta σ H (Da (args i))) : Eln (tCall (Prn args pre ds) [] E ta) σ H (ds i) := fun H1 e Q q =>
  h H1 e _ fun vs H2 e2 t => ⟨i, by rw [List.append_nil]; exact t, p, fun a H3 ha e3 r => q a H3 (e2.free ha) (e2.trans e3) r⟩
def RetN (ts : TS) (σ : L2.St) (H : Hp) (ds : List PyData) : Prop := ∀ Q : VK, (∀ p H', H p = none → Same H H' → Ls H' p ds → Q (.ref p) H') → ts { nx := fun _ H' => Q .non H', rt := Q } σ H
theorem dv_prn {P : Program} {w : World} {K : PySem.W.Frag} {mg : PySem.Str → Option Value} {base : Heap} {x : PySem.Str} {st : Stmt} {N ps : List PySem.Str} {k : Nat} {ι : Type} {args : ι → List PyData} {pre : ι → Prop} {ds : ι → List PyData} (M : Md K mg x st) (S : FnScope N ps (defScope st)) (hb : BindsAt x st ps)
    (hl : ∀ i, (args i).length = ps.length)
    (hbody : ∀ (f : Addr) (cdv : Value) (A : Around) (outer : List Env) (s : Shared) (H : Hp) (E : XK), Room k (A.deeper (envOfC x (defScope st) s.heap.objs.size f cdv)) →
      ∃ t, PSs (cxOf CX0 P w K mg base N x (defScope st) f cdv A outer s H E).nox (defBody st) t ∧ ∀ i vs, TpA H vs (args i) → pre i → RetN t (start N vs) H (ds i)) : Dv P w K mg base x (k + 1) ps (Prn args pre ds) := by
  refine dv_mk M S hb (fun vs H Q E ⟨i, t, _⟩ => by rw [t.len]; exact hl i) fun f cdv A outer s H E hr => ?_
  obtain ⟨t, h1, h2⟩ := hbody f cdv A outer s H E hr
  exact ⟨t, h1, fun vs Q ⟨i, t1, p, q⟩ => h2 i vs t1 p Q q⟩
/-- a body that ends by itself -/
def Run (ts : TS) (σ : L2.St) (H : Hp) (P : V → Hp → Prop) : Prop := Ret ts σ H P
theorem s_retN {te : TE} {σ : L2.St} {H : Hp} {ds : List PyData} (h : Eln te σ H ds) : RetN (tRet te) σ H ds := fun Q q => h H (.refl _) _ q

/-! ### the built-ins and the constants as the module sees them -/
structure Bt (mg : PySem.Str → Option Value) : Prop where
  b_len : mg "len" = none
  b_all : mg "all" = none
  b_isinstance : mg "isinstance" = none
  b_min : mg "min" = none
  b_max : mg "max" = none
  b_abs : mg "abs" = none
  b_divmod : mg "divmod" = none
  b_repr : mg "repr" = none
  b_sum : mg "sum" = none
  b_sorted : mg "sorted" = none
  b_tuple : mg "tuple" = none
  b_list : mg "list" = none
  b_int : mg "int" = none
  b_bool : mg "bool" = none
  b_range : mg "range" = none
  b_enumerate : mg "enumerate" = none
  b_zip : mg "zip" = none
  k_MOST_LETTER : ∃ t, mg "MOST_LETTER" = some (.int 12 t)
  k_MOST_LONG : ∃ t, mg "MOST_LONG" = some (.int 12 t)
  k_MOST_BOXES : ∃ t, mg "MOST_BOXES" = some (.int 40 t)
  k_MOST_LISTED : ∃ t, mg "MOST_LISTED" = some (.int 2000 t)
end WS
/-! WsF: the defs of shapes and words. -/
namespace WS
open PySem PySem.Spec PyProof.Rows L2
theorem itb_of {ι κ : Type} {J : It} {H : Hp} {its : List ι} {g : ι → κ} {rel : Hp → V → κ → Prop} {ok : Addr → Prop} (h : Itb J H (its.map g) rel ok) : Itb J H its (fun H v n => rel H v (g n)) ok := by
  obtain ⟨L, G, Y, h1, h2, h3⟩ := h
  rw [List.length_map] at h2 h3
  refine ⟨L, G, Y, h1, h2, fun H3 k e => ⟨(h3 H3 k e).1, fun i x H4 hi y => ?_⟩⟩
  obtain ⟨s, d, e1, r⟩ := (h3 H3 k e).2 i x H4 hi y
  rw [List.getElem?_map] at e1
  cases q : its[i]? with
  | none => rw [q] at e1; cases e1
  | some n => rw [q] at e1; cases e1; exact ⟨s, n, rfl, r⟩
theorem Ei.of {ι κ : Type} {wi : TI} {σ : L2.St} {H : Hp} {its : List ι} {g : ι → κ} {rel : Hp → V → κ → Prop} {ok : Addr → Prop} (h : Ei wi σ H (its.map g) rel ok) : Ei wi σ H its (fun H v n => rel H v (g n)) ok :=
  fun H1 e R q => h H1 e R fun J H2 e2 b => q J H2 e2 (itb_of b)
section
variable {P : Program} {w : World} {K : PySem.W.Frag} {mg : PySem.Str → Option Value} {base : Heap}
abbrev s_is_number : Stmt := topS 17
abbrev N_is_number : List PySem.Str := ["value", "low", "high"]
theorem sc_is_number : FnScope N_is_number ["value", "low", "high"] (defScope s_is_number) := ⟨rfl, rfl, rfl, by decide +kernel, rfl, by decide +kernel, by decide +kernel⟩
abbrev S_is_number : Sp := Pr (fun i : Int × Int × Int => [.int i.1, .int i.2.1, .int i.2.2]) (fun _ => True) (fun i => Dt (.bool (decide (i.2.1 ≤ i.1) && decide (i.1 ≤ i.2.2))))
theorem d_is_number (B : Bt mg) (M : Md K mg "is_number" s_is_number) : Dv P w K mg base "is_number" 1 ["value", "low", "high"] S_is_number :=
  dv_pr M sc_is_number (fun _ _ _ _ _ _ us hl => match us, hl with | [_, _, _], _ => rfl) (fun _ => rfl) fun f cdv A outer s H E hr => ⟨_,
(pss_one (ps_ret (pe_and (pe_callB (r := rIsi K) call_isi (by rfl) B.b_isinstance (by decide +kernel) (pa_cons (pv 0) (pa_cons (pe_bltn (v := .ty "int") (by rfl) B.b_int (by decide +kernel) rfl) pa_nil))) (pe_and (pe_not (pe_callB (r := rIsi K) call_isi (by rfl) B.b_isinstance (by decide +kernel) (pa_cons (pv 0) (pa_cons (pe_bltn (v := .ty "bool") (by rfl) B.b_bool (by decide +kernel) rfl) pa_nil)))) (pe_one (pe_chain op_le op_le (pv 1) (pv 0) (pv 2))))))), fun i vs t _ => by
  obtain ⟨v, w, z, rfl, h1, h2, h3⟩ := tpa3 t
  exact ret_of (ed_is (ed_and (ed_isiI (ed_var rfl h1)) fun _ => ed_and (ed_not (ed_isiB (ed_var rfl h1))) fun _ => ed_chain _ rfl rfl (ed_var rfl h2) (ed_var rfl h1) (ed_var rfl h3)) (by simp))⟩
abbrev s_is_shape : Stmt := topS 18
abbrev N_is_shape : List PySem.Str := ["value", "most", "place", "part"]
theorem sc_is_shape : FnScope N_is_shape ["value", "most"] (defScope s_is_shape) := ⟨rfl, rfl, rfl, by decide +kernel, rfl, by decide +kernel, by decide +kernel⟩
/-- a shape of at most six boxes -/
def shOk (ns : List Int) : Bool := decide (ns.length ≤ 6) && ns.all (fun n => decide (1 ≤ n) && decide (n ≤ 6)) && decide (ns.sum ≤ 6) && (List.range (ns.length - 1)).all fun j => decide (ns.getD (j + 1) 0 ≤ ns.getD j 0)
theorem getD_at {ns : List Int} {j : Nat} (h : j < ns.length) : atI (ns.map PyData.int) (j : Int) = some (.int (ns.getD j 0)) := by
  refine atI_nat ?_
  simp [h]
abbrev S_is_shape : Sp := Pr (fun i : List Int × Int => [pT i.1, .int i.2]) (fun i => shOk i.1 = true ∧ 6 ≤ i.2 ∧ i.2 ≤ 1000) (fun i => Dt (.bool true))
theorem d_is_shape (B : Bt mg) (D_is_number : Dv P w K mg base "is_number" 1 ["value", "low", "high"] S_is_number) (M : Md K mg "is_shape" s_is_shape) : Dv P w K mg base "is_shape" 2 ["value", "most"] S_is_shape :=
  dv_pr M sc_is_shape (fun _ _ _ _ _ _ us hl => match us, hl with | [_, _], _ => rfl) (fun _ => rfl) fun f cdv A outer s H E hr => ⟨_,
(pss_cons (ps_if (PW.pt (pw_or (pt_not (pt_val (pe_callB (r := rIsi K) call_isi (by rfl) B.b_isinstance (by decide +kernel) (pa_cons (pv 0) (pa_cons (pe_bltn (v := .ty "tuple") (by rfl) B.b_tuple (by decide +kernel) rfl) pa_nil))))) (pw_or (pt_cmpR op_gt (pe_callB (r := rLenQ K) call_len_seq (by rfl) B.b_len (by decide +kernel) (pa_cons (pv 0) pa_nil)) (pv 1) (nomark _)) (pw_or1 (pt_not (pt_val (pe_callB (r := rAll K) (cr_all rfl) (by rfl) B.b_all (by decide +kernel) (pa_cons (pe_lc (own := [("part", 3)]) rfl sc_is_shape.nd (pi_tup (pv 0)) (blkOk_by (own := [("part", 3)]) (N := N_is_shape) (sc := defScope s_is_shape) (by decide +kernel)) (fun _ _ _ _ _ => (pg_name (i := 3) sc_is_shape.nd rfl (Or.inl rfl))) (fun _ _ _ _ _ => pts_nil) (fun _ _ _ _ _ => (pe_cd D_is_number (hr.mono (by decide)) (by rfl) (pa_cons (pv 3) (pa_cons pe_int (pa_cons (pv 1) pa_nil)))))) pa_nil)))))))) (pss_one (ps_ret pe_bl)) pss_nil)
  (pss_one (ps_ret (pe_and (pe_cmpR op_le (pe_callB (r := rSumT K) (cr_sumT rfl) (by rfl) B.b_sum (by decide +kernel) (pa_cons (pv 0) pa_nil)) (pv 1) (nomark _)) (pe_one (pe_callB (r := rAll K) (cr_all rfl) (by rfl) B.b_all (by decide +kernel) (pa_cons (pe_lc (own := [("place", 2)]) rfl sc_is_shape.nd (pi_range1 (by rfl) B.b_range (pa_cons (pe_op op_sub (pe_callB (r := rLenQ K) call_len_seq (by rfl) B.b_len (by decide +kernel) (pa_cons (pv 0) pa_nil)) pe_int) pa_nil)) (blkOk_by (own := [("place", 2)]) (N := N_is_shape) (sc := defScope s_is_shape) (by decide +kernel)) (fun _ _ _ _ _ => (pg_name (i := 2) sc_is_shape.nd rfl (Or.inl rfl))) (fun _ _ _ _ _ => pts_nil) (fun _ _ _ _ _ => (pe_cmpR op_ge (pe_ix (r := rIxT K) ix_tup (pv 0) (pv 2) (fun _ _ => rfl)) (pe_ix (r := rIxT K) ix_tup (pv 0) (pe_op op_add (pv 2) pe_int) (fun _ _ => rfl)) (nomark _)))) pa_nil))))))), fun ⟨ns, m⟩ vs t ⟨hok, hm1, hm2⟩ => by
  obtain ⟨v, w, rfl, h1, h2⟩ := tpa2 t
  simp only at h1 h2 hok hm1 hm2
  simp only [shOk, Bool.and_eq_true, decide_eq_true_eq, List.all_eq_true, List.mem_range] at hok
  obtain ⟨⟨⟨k1, k2⟩, k3⟩, k4⟩ := hok
  have hlen : ((ns.map PyData.int).length : Int) = (ns.length : Int) := by simp
  intro Q q
  refine s_ifF (et_or (b := false) (c := false) (et_not (b := true) (et_B (ed_isiT (ed_var rfl h1)))) fun _ => et_or (b := false) (c := false) (et_is (et_test (ed_gt (ed_len (ed_var rfl h1)) (ed_var rfl h2))) (decide_eq_false (by omega))) fun _ => et_not (b := true) (et_B (ed_is (ed_all (bs := ns.map fun n => decide (1 ≤ n) && decide (n ≤ m)) (Eln.el (eln_is (eln_map (its := ns) (fun n => .bool (decide (1 ≤ n) && decide (n ≤ m))) (by omega) (Ei.of (ei_tup (ed_var rfl h1))) fun n hn x H1 e r => hb_name rfl (em_call (n, (1 : Int), m) True.intro (ea_cons (ed_var rfl r) (ea_cons ed_int (ea_cons (ed_var rfl (h2.up e)) ea_nil))))) (by rw [List.map_map]; rfl)))) ?_))) fun H1 e => ?_
  · simp only [PyData.bool.injEq, List.all_eq_true, List.mem_map, id_eq, forall_exists_index, and_imp, forall_apply_eq_imp_iff₂, Bool.and_eq_true, decide_eq_true_eq]
    intro n hn
    have := k2 n hn
    omega
  · refine s_ret (ed_is (ed_and (ed_le (ed_sumT (ed_var rfl (h1.up e))) (ed_var rfl (h2.up e))) fun _ => ed_all (bs := (List.range (((ns.map PyData.int).length : Int) - 1).toNat).map fun j => decide (ns.getD (j + 1) 0 ≤ ns.getD j 0)) (Eln.el (eln_is (eln_map (its := List.range (((ns.map PyData.int).length : Int) - 1).toNat) (fun j => .bool (decide (ns.getD (j + 1) 0 ≤ ns.getD j 0))) (by simp; omega) (Ei.of (ei_rng1 (by omega) (ed_sub (ed_len (ed_var rfl (h1.up e))) ed_int))) fun j hj x H1' e' r => hb_name rfl ?_) (by rw [List.map_map]; rfl)))) ?_) fun v' H' e' p => q v' H' (e.trans e') p
    · have hj' : j + 1 < ns.length := by
        have := List.mem_range.mp hj
        omega
      exact ed_ge (ed_ixT (ed_var rfl (h1.up (e.trans e'))) (ed_var rfl r) (getD_at (by omega))) (ed_ixT (ed_var rfl (h1.up (e.trans e'))) (ed_add (ed_var rfl r) ed_int) (getD_at (j := j + 1) hj'))
    · simp only [PyData.bool.injEq, Bool.and_eq_true, List.all_eq_true, List.mem_map, id_eq, forall_exists_index, and_imp, forall_apply_eq_imp_iff₂, decide_eq_true_eq, List.mem_range]
      refine ⟨by omega, fun j hj => k4 j (by omega)⟩⟩
abbrev s_check_shape : Stmt := topS 19
abbrev N_check_shape : List PySem.Str := ["value", "most"]
theorem sc_check_shape : FnScope N_check_shape ["value", "most"] (defScope s_check_shape) := ⟨rfl, rfl, rfl, by decide +kernel, rfl, by decide +kernel, by decide +kernel⟩
/-- a check that passes -/
abbrev S_ok1 {ι : Type} (args : ι → List PyData) (pre : ι → Prop) : Sp := Pr args pre (fun _ _ _ => True)
abbrev S_check_shape : Sp := S_ok1 (fun i : List Int × Int => [pT i.1, .int i.2]) (fun i => shOk i.1 = true ∧ 6 ≤ i.2 ∧ i.2 ≤ 1000)
theorem d_check_shape (B : Bt mg) (D_is_shape : Dv P w K mg base "is_shape" 2 ["value", "most"] S_is_shape) (M : Md K mg "check_shape" s_check_shape) : Dv P w K mg base "check_shape" 3 ["value", "most"] S_check_shape :=
  dv_pr M sc_check_shape (fun _ _ _ _ _ _ us hl => match us, hl with | [_, _], _ => rfl) (fun _ => rfl) fun f cdv A outer s H E hr => ⟨_,
(pss_one (ps_if (pt_not (pt_val (pe_cd D_is_shape (hr.mono (by decide)) (by rfl) (pa_cons (pv 0) (pa_cons (pv 1) pa_nil))))) (pss_one ps_never) pss_nil)), fun ⟨ns, m⟩ vs t hp => by
  obtain ⟨v, w, rfl, h1, h2⟩ := tpa2 t
  exact fun Q q => s_ifF (et_not (b := true) (et_B (em_call (ns, m) hp (ea_cons (ed_var rfl h1) (ea_cons (ed_var rfl h2) ea_nil))))) fun H' e => q _ H' e True.intro⟩
abbrev s_trimmed : Stmt := topS 20
abbrev N_trimmed : List PySem.Str := ["numbers", "number"]
theorem sc_trimmed : FnScope N_trimmed ["numbers"] (defScope s_trimmed) := ⟨rfl, rfl, rfl, by decide +kernel, rfl, by decide +kernel, by decide +kernel⟩
def trimmed (ns : List Int) : List Int := ns.filter fun n => decide (0 < n)
abbrev S_trimmed : Sp := Pr (fun ns : List Int => [pT ns]) (fun ns => ns.length ≤ 100) (fun ns => Dt (pT (trimmed ns)))
theorem d_trimmed (B : Bt mg) (M : Md K mg "trimmed" s_trimmed) : Dv P w K mg base "trimmed" 1 ["numbers"] S_trimmed :=
  dv_pr M sc_trimmed (fun _ _ _ _ _ _ us hl => match us, hl with | [_], _ => rfl) (fun _ => rfl) fun f cdv A outer s H E hr => ⟨_,
(pss_one (ps_ret (pe_callTy (r := rTupQ K) call_tuple_of (by rfl) B.b_tuple (by decide +kernel) (pa_cons (pe_lc (own := [("number", 1)]) rfl sc_trimmed.nd (pi_tup (pv 0)) (blkOk_by (own := [("number", 1)]) (N := N_trimmed) (sc := defScope s_trimmed) (by decide +kernel)) (fun _ _ _ _ _ => (pg_name (i := 1) sc_trimmed.nd rfl (Or.inl rfl))) (fun _ _ _ _ _ => (pts_one (pt_cmpR op_gt (pv 1) pe_int (nomark _)))) (fun _ _ _ _ _ => (pv 1))) pa_nil)))), fun ns vs t hp => by
  obtain ⟨v, rfl, h1⟩ := tpa1 t
  exact ret_of (ed_tuple (Eln.el (eln_filter (its := ns) PyData.int (fun n => decide (0 < n)) (by omega) (Ei.of (ei_tup (ed_var rfl h1))) fun n hn x H1 e r => hb_name rfl ⟨et_test (ed_gt (ed_var rfl r) ed_int), fun _ => ed_var rfl r⟩)))⟩
end
end WS
/-! WsG: sums_along .. heavier; words and rows; amounts. -/
namespace WS
open PySem PySem.Spec PyProof.Rows L2
theorem dels_mono {H H' : Hp} {p : Addr} {ps : List Addr} (h : p ∈ ps) (e : Same (dels H [p]) H') : Same (dels H ps) H' := fun b o q => by
  by_cases hb : b ∈ ps
  · rw [dels_none hb] at q; cases q
  · rw [dels_some hb] at q
    exact e b o (by rw [dels_some (fun z => hb (by rw [List.mem_singleton.mp z]; exact h))]; exact q)
section
variable {K : PySem.W.Frag} {σ : L2.St} {H : Hp} {te : TE} {D : Ends} {d : PyData} {ds es : List PyData}
theorem s_setN {i : Nat} (h : Eln te σ H ds) (k : ∀ p H', H p = none → Same H H' → Ls H' p ds → D.nx (σ.set i (some (.ref p))) H') : tAsg te (gName i) D σ H := h H (.refl _) _ k
theorem s_app {p : Addr} {i : Nat} (hv : σ[i]? = some (some (.ref p))) (l : Ls H p ds) (h : Ed te σ H d) (hz : ds.length < 100000) (k : ∀ H', Same (dels H [p]) H' → Ls H' p (ds ++ [d]) → D.nx σ H') :
    tDrop (tBM K "list" rAppend (tVar i) (tCons te tNil)) D σ H := by
  obtain ⟨xs, h1, h2⟩ := l
  refine ⟨_, hv, .inl ⟨rfl, xs, .inl (.inl h1)⟩, h H (.refl _) _ fun v H2 e2 t => ⟨p, xs, v, rfl, rfl, e2 _ _ h1, by rw [h2.len]; exact sz_lt hz, ?_⟩⟩
  have kp : Kp H2 (upd H2 p (.lst (xs ++ [v]))) := .upd (e2 _ _ h1) rfl
  exact k _ (Same.dels_upd (Same.to_dels e2) (by simp)) ⟨_, upd_same, (h2.up e2).kp kp |>.snoc (Tp.kp kp t)⟩
theorem s_ext {p : Addr} {i : Nat} (hv : σ[i]? = some (some (.ref p))) (l : Ls H p ds) (h : Eln te σ H es) (hz : ds.length + es.length ≤ 100000) (k : ∀ H', Same (dels H [p]) H' → Ls H' p (ds ++ es) → D.nx σ H') :
    tDrop (tBM K "list" rExtend (tVar i) (tCons te tNil)) D σ H := by
  obtain ⟨xs, h1, h2⟩ := l
  refine ⟨_, hv, .inl ⟨rfl, xs, .inl (.inl h1)⟩, h H (.refl _) _ fun q H2 hq e2 ⟨zs, t1, t2⟩ => ⟨p, q, xs, zs, rfl, rfl, e2 _ _ h1, t1, by rw [h2.len, t2.len]; exact sz_le hz, ?_⟩⟩
  have kp : Kp H2 (upd H2 p (.lst (xs ++ zs))) := .upd (e2 _ _ h1) rfl
  exact k _ (Same.dels_upd (Same.to_dels e2) (by simp)) ⟨_, upd_same, ((h2.up e2).kp kp).app (t2.kp kp)⟩
/-! a statement and the rest -/
variable {u tu tw : TS} {t : TT} {P : V → Hp → Prop} {wi : TI} {g : TG} {tb : TS} {i : Nat}
theorem q_set (h : Em te σ H P) (k : ∀ v H', Same H H' → P v H' → u D (σ.set i (some v)) H') : tSeq (tAsg te (gName i)) u D σ H := s_set (D := { D with nx := u D }) h k
theorem q_setN (h : Eln te σ H ds) (k : ∀ p H', H p = none → Same H H' → Ls H' p ds → u D (σ.set i (some (.ref p))) H') : tSeq (tAsg te (gName i)) u D σ H := s_setN (D := { D with nx := u D }) h k
theorem q_drop (h : Em te σ H P) (k : ∀ v H', Same H H' → P v H' → u D σ H') : tSeq (tDrop te) u D σ H := s_drop (D := { D with nx := u D }) h k
theorem q_ifF (h : Et t σ H false) (k : ∀ H', Same H H' → u D σ H') : tSeq (tIfS t tu tNext) u D σ H := s_ifF (D := { D with nx := u D }) h k
theorem q_app {p : Addr} (hv : σ[i]? = some (some (.ref p))) (l : Ls H p ds) (h : Ed te σ H d) (hz : ds.length < 100000) (k : ∀ H', Same (dels H [p]) H' → Ls H' p (ds ++ [d]) → u D σ H') :
    tSeq (tDrop (tBM K "list" rAppend (tVar i) (tCons te tNil))) u D σ H := s_app (D := { D with nx := u D }) hv l h hz k
theorem q_for {ι : Type} {its : List ι} {rel : Hp → V → ι → Prop} (hi : Ei wi σ H its rel any) (Pv : Nat → L2.St → Hp → Prop) (h0 : ∀ H', Same H H' → Pv 0 σ H')
    (hs : ∀ i d, its[i]? = some d → ∀ x σ1 H0 H1, Same H H0 → Pv i σ1 H0 → Same H0 H1 → rel H1 x d → ∀ Nx : L2.St → Hp → Prop, (∀ σ' H', Same H1 H' → Pv (i + 1) σ' H' → Nx σ' H') → g x σ1 H1 fun σ2 H2 => tb { D with nx := Nx, ct := Nx, bk := u D } σ2 H2)
    (hd : ∀ σ' H', Same H H' → Pv its.length σ' H' → u D σ' H') : tSeq (tFor wi g tb) u D σ H := for_pure (D := { D with nx := u D }) hi Pv h0 hs hd
theorem q_forM {ι : Type} {its : List ι} {rel : Hp → V → ι → Prop} (ps : List Addr) (hps : ∀ p ∈ ps, ∃ o, H p = some o ∧ Fix o = false) (hi : Ei wi σ H its rel (· ∉ ps)) (Pv : Nat → L2.St → Hp → Prop) (h0 : ∀ H', Same H H' → Pv 0 σ H')
    (hs : ∀ i d, its[i]? = some d → ∀ x σ1 H0 H1, Same (dels H ps) H0 → Pv i σ1 H0 → Same H0 H1 → rel H1 x d → ∀ Nx : L2.St → Hp → Prop, (∀ σ' H', Same (dels H1 ps) H' → Pv (i + 1) σ' H' → Nx σ' H') → g x σ1 H1 fun σ2 H2 => tb { D with nx := Nx, ct := Nx, bk := u D } σ2 H2)
    (hd : ∀ σ' H', Same (dels H ps) H' → Pv its.length σ' H' → u D σ' H') : tSeq (tFor wi g tb) u D σ H := for_go (D := { D with nx := u D }) ps hps hi Pv h0 hs hd
end
theorem dels_step {H0 H1 H2 : Hp} {ps : List Addr} (a : Same H0 H1) (b : Same (dels H1 ps) H2) : Same (dels H0 ps) H2 := Same.dels_trans (Same.to_dels a) b
theorem range_at {n i r : Nat} (h : (List.range n)[i]? = some r) : r = i ∧ i < n := by
  have hl : i < n := by
    have := (List.getElem?_eq_some_iff.mp h).1
    simpa using this
  rw [List.getElem?_range hl] at h
  exact ⟨(Option.some.inj h).symm, hl⟩
section
variable {P : Program} {w : World} {K : PySem.W.Frag} {mg : PySem.Str → Option Value} {base : Heap}
abbrev s_sums_along : Stmt := topS 21
abbrev N_sums_along : List PySem.Str := ["shape", "many", "found", "whole", "row"]
theorem sc_sums_along : FnScope N_sums_along ["shape", "many"] (defScope s_sums_along) := ⟨rfl, rfl, rfl, by decide +kernel, rfl, by decide +kernel, by decide +kernel⟩
def sumsAlong (ns : List Int) (m : Nat) : List Int := (List.range m).map fun r => (ns.take (r + 1)).sum
abbrev S_sums_along : Sp := Prn (fun i : List Int × Int => [pT i.1, .int i.2]) (fun i => 0 ≤ i.2 ∧ i.2 ≤ 1000) (fun i => (sumsAlong i.1 i.2.toNat).map .int)
theorem sum_take (ns : List Int) (r : Nat) : (ns.take (r + 1)).sum = (ns.take r).sum + (if r < ns.length then ns.getD r 0 else 0) := by
  by_cases h : r < ns.length
  · rw [if_pos h, List.take_succ, List.sum_append]
    simp [h]
  · rw [if_neg h, List.take_of_length_le (by omega), List.take_of_length_le (by omega)]
    simp
theorem sumsAlong_succ (ns : List Int) (m : Nat) : sumsAlong ns (m + 1) = sumsAlong ns m ++ [(ns.take (m + 1)).sum] := by
  unfold sumsAlong
  rw [List.range_succ, List.map_append]
  rfl
theorem d_sums_along (B : Bt mg) (M : Md K mg "sums_along" s_sums_along) : Dv P w K mg base "sums_along" 1 ["shape", "many"] S_sums_along :=
  dv_prn M sc_sums_along (fun _ _ _ _ _ _ us hl => match us, hl with | [_, _], _ => rfl) (fun _ => rfl) fun f cdv A outer s H E hr => ⟨_,
(pss_cons (ps_set (i := 2) sc_sums_along.nd rfl (.inl rfl) (pe_lst pa_nil))
  (pss_cons (ps_set (i := 3) sc_sums_along.nd rfl (.inl rfl) pe_int)
  (pss_cons (ps_for PassesOwn.never rfl (pi_range1 (by rfl) B.b_range (pa_cons (pv 1) pa_nil)) (pg_name (i := 4) sc_sums_along.nd rfl (.inl rfl))
  (pss_cons (ps_set (i := 3) sc_sums_along.nd rfl (.inl rfl) (pe_op op_add (pv 3) (pe_ifExp (pt_cmpR op_lt (pv 4) (pe_callB (r := rLenQ K) call_len_seq (by rfl) B.b_len (by decide +kernel) (pa_cons (pv 0) pa_nil)) (nomark _)) (pe_ix (r := rIxT K) ix_tup (pv 0) (pv 4) (fun _ _ => rfl)) pe_int)))
  (pss_one (ps_expr (pe_bm PySem.F.plainAttrs_list PySem.F.slot_list_append PySem.F.type_list_append mt_append (pv 2) (pa_cons (pv 3) pa_nil))))))
  (pss_one (ps_ret (pv 2)))))), fun ⟨ns, m⟩ vs t ⟨hm1, hm2⟩ => by
  obtain ⟨v, w, rfl, h1, h2⟩ := tpa2 t
  simp only at h1 h2 hm1 hm2
  intro Q q
  refine q_setN (eln_lst (ds := []) (by decide) ea_nil) fun p H1 hp e1 l1 => ?_
  refine q_set ed_int fun x3 H2 e2 t3 => ?_
  cases Tp.ofInt t3
  obtain ⟨xs, l2, _⟩ := l1.up e2
  refine q_forM [p] (fun a ha => by rw [List.mem_singleton.mp ha]; exact ⟨_, l2, rfl⟩) (Ei.of (its := List.range m.toNat) (ei_rng1 (by omega) (ed_var rfl ((h2.up e1).up e2)))) (fun i σ' H' => ∃ x4, σ' = [some v, some w, some (.ref p), some (.int (ns.take i).sum), x4] ∧ Ls H' p ((sumsAlong ns i).map .int)) ?_ ?_ ?_
  · exact fun H' e' => ⟨none, rfl, (l1.up e2).up e'⟩
  · rintro i r hi x σ1 H3 H4 s3 ⟨x4, rfl, l⟩ s4 tx Nx n
    obtain ⟨rfl, hir⟩ := range_at hi
    have b : Same H H4 := (Same.of_dels (e1.trans e2) (fun a ha => by rw [List.mem_singleton.mp ha]; exact hp) s3).trans s4
    refine q_set (P := Dt (.int (ns.take (r + 1)).sum)) ?_ fun y H5 e5 t5 => ?_
    · rw [sum_take]
      refine ed_add (ed_varI rfl) (em_if (b := decide (r < ns.length)) (et_is (et_test (ed_lt (ed_var rfl tx) (ed_len (ed_var rfl (h1.up b))))) (by simp)) (fun z => ?_) fun z => ?_)
      · have z := of_decide_eq_true z
        rw [if_pos z]
        exact ed_ixT (ed_var rfl (h1.up b)) (ed_var rfl tx) (getD_at z)
      · have z := of_decide_eq_false z
        rw [if_neg z]
        exact ed_int
    · refine s_app (ds := (sumsAlong ns r).map .int) rfl ((l.up s4).up e5) (ed_var rfl t5) (by simp [sumsAlong]; omega) fun H6 s6 l6 => n _ H6 (dels_step e5 s6) ⟨some x, ?_, ?_⟩
      · rw [Tp.ofInt t5]; rfl
      · rw [sumsAlong_succ, List.map_append]; exact l6
  · rintro σ' H' s' ⟨x4, rfl, l⟩
    rw [List.length_range] at l
    exact ⟨_, rfl, q p H' hp (Same.of_dels (e1.trans e2) (fun a ha => by rw [List.mem_singleton.mp ha]; exact hp) s') l⟩⟩
end
end WS
/-! WsH: lighter_at, heavier; words and rows; amounts. -/
namespace WS
open PySem PySem.Spec PyProof.Rows L2
section
variable {P : Program} {w : World} {K : PySem.W.Frag} {mg : PySem.Str → Option Value} {base : Heap}
abbrev s_lighter_at : Stmt := topS 22
abbrev N_lighter_at : List PySem.Str := ["shape", "other", "many", "own", "place", "whole"]
theorem sc_lighter_at : FnScope N_lighter_at ["shape", "other"] (defScope s_lighter_at) := ⟨rfl, rfl, rfl, by decide +kernel, rfl, by decide +kernel, by decide +kernel⟩
def hvAt (a b : List Int) (r : Nat) : Bool := decide ((b.take (r + 1)).sum ≤ (a.take (r + 1)).sum)
def hv (a b : List Int) : Bool := (List.range (max a.length b.length)).all (hvAt a b)
theorem sums_at {ns : List Int} {m r : Nat} (h : r < m) : (sumsAlong ns m)[r]? = some (ns.take (r + 1)).sum := by
  unfold sumsAlong
  rw [List.getElem?_map, List.getElem?_range h]
  rfl
abbrev S_lighter_at : Sp := Pr (fun i : List Int × List Int => [pT i.1, pT i.2]) (fun i => i.1.length ≤ 100 ∧ i.2.length ≤ 100) (fun i v _ => decide (v = .non) = hv i.1 i.2)
theorem d_lighter_at (B : Bt mg) (D_sums_along : Dv P w K mg base "sums_along" 1 ["shape", "many"] S_sums_along) (M : Md K mg "lighter_at" s_lighter_at) : Dv P w K mg base "lighter_at" 2 ["shape", "other"] S_lighter_at :=
  dv_pr M sc_lighter_at (fun _ _ _ _ _ _ us hl => match us, hl with | [_, _], _ => rfl) (fun _ => rfl) fun f cdv A outer s H E hr => ⟨_,
(pss_cons (ps_set (i := 2) sc_lighter_at.nd rfl (.inl rfl) (pe_callB (call_max2 rfl) (by rfl) B.b_max (by decide +kernel) (pa_cons (pe_callB (r := rLenQ K) call_len_seq (by rfl) B.b_len (by decide +kernel) (pa_cons (pv 0) pa_nil)) (pa_cons (pe_callB (r := rLenQ K) call_len_seq (by rfl) B.b_len (by decide +kernel) (pa_cons (pv 1) pa_nil)) pa_nil))))
  (pss_cons (ps_set (i := 3) sc_lighter_at.nd rfl (.inl rfl) (pe_cd D_sums_along (hr.mono (by decide)) (by rfl) (pa_cons (pv 0) (pa_cons (pv 2) pa_nil))))
  (pss_cons (ps_for PassesOwn.never rfl (pi_enum (by rfl) B.b_enumerate (pa_cons (pe_cd D_sums_along (hr.mono (by decide)) (by rfl) (pa_cons (pv 1) (pa_cons (pv 2) pa_nil))) pa_nil)) (ws_pair (K := K) rfl rfl (pg_name (i := 4) sc_lighter_at.nd rfl (.inl rfl)) (pg_name (i := 5) sc_lighter_at.nd rfl (.inl rfl)))
  (pss_one (ps_if (pt_cmpR op_lt (pe_ix (r := rIxL K) ix_list (pv 3) (pv 4) (fun _ _ => rfl)) (pv 5) (nomark _)) (pss_one (ps_ret (pe_op op_add (pv 4) pe_int))) pss_nil)))
  (pss_one (ps_ret pe_non))))), fun ⟨a, b⟩ vs t ⟨ha, hb⟩ => by
  obtain ⟨v, w, rfl, h1, h2⟩ := tpa2 t
  simp only at h1 h2 ha hb
  have em : max ((a.map PyData.int).length : Int) ((b.map PyData.int).length : Int) = ((max a.length b.length : Nat) : Int) := by simp only [List.length_map]; omega
  intro Q q
  refine q_set (ed_is (ed_max (ed_len (ed_var rfl h1)) (ed_len (ed_var rfl h2))) (congrArg _ em)) fun x2 H1 e1 t2 => ?_
  refine q_set (P := Li ((sumsAlong a (max a.length b.length)).map .int)) (Eln.el (eln_call (a, ((max a.length b.length : Nat) : Int)) ⟨by omega, by omega⟩ (ea_cons (ed_var rfl (h1.up e1)) (ea_cons (ed_var rfl t2) ea_nil)))) fun x3 H2 e2 l3 => ?_
  obtain ⟨p3, rfl, l3⟩ := l3
  refine q_for (ei_enumL (ds := (sumsAlong b (max a.length b.length)).map .int) (Eln.el (eln_call (b, ((max a.length b.length : Nat) : Int)) ⟨by omega, by omega⟩ (ea_cons (ed_var rfl ((h2.up e1).up e2)) (ea_cons (ed_var rfl (Tp.up t2 e2)) ea_nil)))))
    (fun i σ' H' => ∃ x4 x5, σ' = [some v, some w, some x2, some (.ref p3), x4, x5] ∧ ∀ r < i, hvAt a b r = true) (fun H' _ => ⟨none, none, rfl, fun r h => absurd h (Nat.not_lt_zero r)⟩) ?_ ?_
  · rintro i d hi x σ1 H3 H4 s3 ⟨x4, x5, rfl, hall⟩ s4 tx Nx n
    rw [List.getElem?_mapIdx, List.getElem?_map] at hi
    have hir : i < max a.length b.length := by
      cases q : (sumsAlong b (max a.length b.length))[i]? with
      | none => rw [q] at hi; cases hi
      | some y => have := (List.getElem?_eq_some_iff.mp q).1; simpa [sumsAlong] using this
    rw [sums_at hir] at hi
    cases hi
    refine g_pair tx fun u y tu ty => ?_
    cases Tp.ofInt tu
    refine s_if (b := !hvAt a b i) (et_is (et_test (ed_lt (ed_ixL (el_var rfl ((l3.up s3).up s4)) (ed_varI rfl) (atI_nat (by rw [List.getElem?_map, sums_at hir]; rfl))) (ed_var rfl ty))) ?_) (fun hz H5 e5 => ?_) fun hz H5 e5 => ?_
    · unfold hvAt
      rw [← decide_not]
      exact decide_eq_decide.mpr (by omega)
    · refine s_ret (ed_add (ed_varI rfl) ed_int) fun z H6 e6 tz => q z H6 (((((e1.trans e2).trans s3).trans s4).trans e5).trans e6) ?_
      rw [Tp.ofInt tz]
      have : hv a b = false := by
        unfold hv
        rw [List.all_eq_false]
        exact ⟨i, List.mem_range.mpr hir, by simpa using hz⟩
      simp [this]
    · refine n _ H5 e5 ⟨_, _, rfl, fun r hr => ?_⟩
      by_cases e : r = i
      · subst e; simpa using hz
      · exact hall r (by omega)
  · rintro σ' H' s' ⟨x4, x5, rfl, hall⟩
    refine q _ H' ((e1.trans e2).trans s') ?_
    have : hv a b = true := by
      unfold hv
      rw [List.all_eq_true]
      exact fun r hr => hall r (by simpa [sumsAlong] using hr)
    rw [this]
    rfl⟩
theorem le40 : (6 : Int) ≤ 40 ∧ (40 : Int) ≤ 1000 := by decide
abbrev s_check_sizes : Stmt := topS 23
abbrev N_check_sizes : List PySem.Str := ["shape", "other"]
theorem sc_check_sizes : FnScope N_check_sizes ["shape", "other"] (defScope s_check_sizes) := ⟨rfl, rfl, rfl, by decide +kernel, rfl, by decide +kernel, by decide +kernel⟩
abbrev S_check_sizes : Sp := S_ok1 (fun i : List Int × List Int => [pT i.1, pT i.2]) (fun i => shOk i.1 = true ∧ shOk i.2 = true ∧ i.1.sum = i.2.sum)
theorem d_check_sizes (B : Bt mg) (D_check_shape : Dv P w K mg base "check_shape" 3 ["value", "most"] S_check_shape) (M : Md K mg "check_sizes" s_check_sizes) : Dv P w K mg base "check_sizes" 4 ["shape", "other"] S_check_sizes :=
  dv_pr M sc_check_sizes (fun _ _ _ _ _ _ us hl => match us, hl with | [_, _], _ => rfl) (fun _ => rfl) fun f cdv A outer s H E hr => ⟨_,
(pss_cons (ps_expr (pe_cd D_check_shape (hr.mono (by decide)) (by rfl) (pa_cons (pv 0) (pa_cons (pe_glob (v := .int 40) rfl B.k_MOST_BOXES.choose_spec ⟨_, rfl⟩) pa_nil))))
  (pss_cons (ps_expr (pe_cd D_check_shape (hr.mono (by decide)) (by rfl) (pa_cons (pv 1) (pa_cons (pe_glob (v := .int 40) rfl B.k_MOST_BOXES.choose_spec ⟨_, rfl⟩) pa_nil))))
  (pss_one (ps_if (pt_cmpR op_ne (pe_callB (r := rSumT K) (cr_sumT rfl) (by rfl) B.b_sum (by decide +kernel) (pa_cons (pv 0) pa_nil)) (pe_callB (r := rSumT K) (cr_sumT rfl) (by rfl) B.b_sum (by decide +kernel) (pa_cons (pv 1) pa_nil)) (nomark _)) (pss_one ps_never) pss_nil)))), fun ⟨a, b⟩ vs t ⟨ha, hb, hs⟩ => by
  obtain ⟨v, w, rfl, h1, h2⟩ := tpa2 t
  simp only at h1 h2 ha hb hs
  intro Q q
  refine q_drop (em_call (a, (40 : Int)) ⟨ha, le40.1, le40.2⟩ (ea_cons (ed_var rfl h1) (ea_cons ed_int ea_nil))) fun _ H1 e1 _ => ?_
  refine q_drop (em_call (b, (40 : Int)) ⟨hb, le40.1, le40.2⟩ (ea_cons (ed_var rfl (h2.up e1)) (ea_cons ed_int ea_nil))) fun _ H2 e2 _ => ?_
  have e := e1.trans e2
  exact s_ifF (et_is (et_test (ed_neI (ed_sumT (ed_var rfl (h1.up e))) (ed_sumT (ed_var rfl (h2.up e))))) (by simp [hs])) fun H3 e3 => q _ H3 (e.trans e3) True.intro⟩
abbrev s_heavier : Stmt := topS 24
abbrev N_heavier : List PySem.Str := ["shape", "other"]
theorem sc_heavier : FnScope N_heavier ["shape", "other"] (defScope s_heavier) := ⟨rfl, rfl, rfl, by decide +kernel, rfl, by decide +kernel, by decide +kernel⟩
abbrev S_heavier : Sp := Pr (fun i : List Int × List Int => [pT i.1, pT i.2]) (fun i => shOk i.1 = true ∧ shOk i.2 = true ∧ i.1.sum = i.2.sum) (fun i => Dt (.bool (hv i.1 i.2)))
theorem shOk_len {ns : List Int} (h : shOk ns = true) : ns.length ≤ 6 := by
  simp only [shOk, Bool.and_eq_true, decide_eq_true_eq] at h
  exact h.1.1.1
theorem d_heavier (B : Bt mg) (D_check_sizes : Dv P w K mg base "check_sizes" 4 ["shape", "other"] S_check_sizes) (D_lighter_at : Dv P w K mg base "lighter_at" 2 ["shape", "other"] S_lighter_at) (M : Md K mg "heavier" s_heavier) : Dv P w K mg base "heavier" 5 ["shape", "other"] S_heavier :=
  dv_pr M sc_heavier (fun _ _ _ _ _ _ us hl => match us, hl with | [_, _], _ => rfl) (fun _ => rfl) fun f cdv A outer s H E hr => ⟨_,
(pss_cons (ps_expr (pe_cd D_check_sizes (hr.mono (by decide)) (by rfl) (pa_cons (pv 0) (pa_cons (pv 1) pa_nil))))
  (pss_one (ps_ret (pe_cmpR op_isN (pe_cd D_lighter_at (hr.mono (by decide)) (by rfl) (pa_cons (pv 0) (pa_cons (pv 1) pa_nil))) pe_non (nomark _))))), fun ⟨a, b⟩ vs t ⟨ha, hb, hs⟩ => by
  obtain ⟨v, w, rfl, h1, h2⟩ := tpa2 t
  simp only at h1 h2 ha hb hs
  intro Q q
  refine q_drop (em_call (a, b) ⟨ha, hb, hs⟩ (ea_cons (ed_var rfl h1) (ea_cons (ed_var rfl h2) ea_nil))) fun _ H1 e1 _ => ?_
  refine s_ret (P := Dt (.bool (hv a b))) (fun H2 e2 Q q => em_call (a, b) ⟨by have := shOk_len ha; simp only; omega, by have := shOk_len hb; simp only; omega⟩ (ea_cons (ed_var rfl (h1.up (e1.trans e2))) (ea_cons (ed_var rfl (h2.up (e1.trans e2))) ea_nil)) H2 (.refl _) _ fun z H3 e3 r => ⟨rfl, q _ H3 e3 (by rw [r]; exact .bl _)⟩) fun z H2 e2 p => q z H2 (e1.trans e2) p⟩
abbrev s_is_integer : Stmt := topS 27
abbrev N_is_integer : List PySem.Str := ["value"]
theorem sc_is_integer : FnScope N_is_integer ["value"] (defScope s_is_integer) := ⟨rfl, rfl, rfl, by decide +kernel, rfl, by decide +kernel, by decide +kernel⟩
abbrev S_is_integer : Sp := Pr (fun i : Int => [.int i]) (fun _ => True) (fun _ => Dt (.bool true))
theorem d_is_integer (B : Bt mg) (M : Md K mg "is_integer" s_is_integer) : Dv P w K mg base "is_integer" 1 ["value"] S_is_integer :=
  dv_pr M sc_is_integer (fun _ _ _ _ _ _ us hl => match us, hl with | [_], _ => rfl) (fun _ => rfl) fun f cdv A outer s H E hr => ⟨_,
(pss_one (ps_ret (pe_and (pe_callB (r := rIsi K) call_isi (by rfl) B.b_isinstance (by decide +kernel) (pa_cons (pv 0) (pa_cons (pe_bltn (v := .ty "int") (by rfl) B.b_int (by decide +kernel) rfl) pa_nil))) (pe_one (pe_not (pe_callB (r := rIsi K) call_isi (by rfl) B.b_isinstance (by decide +kernel) (pa_cons (pv 0) (pa_cons (pe_bltn (v := .ty "bool") (by rfl) B.b_bool (by decide +kernel) rfl) pa_nil)))))))), fun i vs t _ => by
  obtain ⟨v, rfl, h1⟩ := tpa1 t
  exact ret_of (ed_and (b := true) (c := true) (ed_isiI (ed_var rfl h1)) fun _ => ed_not (b := false) (ed_isiB (ed_var rfl h1)))⟩
abbrev s_is_within : Stmt := topS 28
abbrev N_is_within : List PySem.Str := ["value", "low", "high"]
theorem sc_is_within : FnScope N_is_within ["value", "low", "high"] (defScope s_is_within) := ⟨rfl, rfl, rfl, by decide +kernel, rfl, by decide +kernel, by decide +kernel⟩
abbrev S_is_within : Sp := Pr (fun i : Int × Int × Int => [.int i.1, .int i.2.1, .int i.2.2]) (fun _ => True) (fun i => Dt (.bool (decide (i.2.1 ≤ i.1) && decide (i.1 ≤ i.2.2))))
theorem d_is_within (B : Bt mg) (D_is_integer : Dv P w K mg base "is_integer" 1 ["value"] S_is_integer) (M : Md K mg "is_within" s_is_within) : Dv P w K mg base "is_within" 2 ["value", "low", "high"] S_is_within :=
  dv_pr M sc_is_within (fun _ _ _ _ _ _ us hl => match us, hl with | [_, _, _], _ => rfl) (fun _ => rfl) fun f cdv A outer s H E hr => ⟨_,
(pss_one (ps_ret (pe_and (pe_cd D_is_integer (hr.mono (by decide)) (by rfl) (pa_cons (pv 0) pa_nil)) (pe_one (pe_chain op_le op_le (pv 1) (pv 0) (pv 2)))))), fun i vs t _ => by
  obtain ⟨v, w, z, rfl, h1, h2, h3⟩ := tpa3 t
  exact ret_of (ed_is (ed_and (b := true) (em_call i.1 True.intro (ea_cons (ed_var rfl h1) ea_nil)) fun _ => ed_chain _ rfl rfl (ed_var rfl h2) (ed_var rfl h1) (ed_var rfl h3)) (by simp))⟩
abbrev s_is_letter : Stmt := topS 29
abbrev N_is_letter : List PySem.Str := ["value"]
theorem sc_is_letter : FnScope N_is_letter ["value"] (defScope s_is_letter) := ⟨rfl, rfl, rfl, by decide +kernel, rfl, by decide +kernel, by decide +kernel⟩
abbrev S_is_letter : Sp := Pr (fun i : Int => [.int i]) (fun _ => True) (fun i => Dt (.bool (decide (1 ≤ i) && decide (i ≤ 12))))
theorem d_is_letter (B : Bt mg) (D_is_within : Dv P w K mg base "is_within" 2 ["value", "low", "high"] S_is_within) (M : Md K mg "is_letter" s_is_letter) : Dv P w K mg base "is_letter" 3 ["value"] S_is_letter :=
  dv_pr M sc_is_letter (fun _ _ _ _ _ _ us hl => match us, hl with | [_], _ => rfl) (fun _ => rfl) fun f cdv A outer s H E hr => ⟨_,
(pss_one (ps_ret (pe_cd D_is_within (hr.mono (by decide)) (by rfl) (pa_cons (pv 0) (pa_cons pe_int (pa_cons (pe_glob (v := .int 12) rfl B.k_MOST_LETTER.choose_spec ⟨_, rfl⟩) pa_nil)))))), fun i vs t _ => by
  obtain ⟨v, rfl, h1⟩ := tpa1 t
  exact ret_of (em_call (i, (1 : Int), (12 : Int)) True.intro (ea_cons (ed_var rfl h1) (ea_cons ed_int (ea_cons ed_int ea_nil))))⟩
abbrev s_is_word : Stmt := topS 30
abbrev N_is_word : List PySem.Str := ["value", "letter"]
theorem sc_is_word : FnScope N_is_word ["value"] (defScope s_is_word) := ⟨rfl, rfl, rfl, by decide +kernel, rfl, by decide +kernel, by decide +kernel⟩
def wordOk (ns : List Int) : Bool := decide (ns.length ≤ 12) && ns.all fun n => decide (1 ≤ n) && decide (n ≤ 12)
abbrev S_is_word : Sp := Pr (fun ns : List Int => [pT ns]) (fun ns => wordOk ns = true) (fun i => Dt (.bool true))
theorem d_is_word (B : Bt mg) (D_is_letter : Dv P w K mg base "is_letter" 3 ["value"] S_is_letter) (M : Md K mg "is_word" s_is_word) : Dv P w K mg base "is_word" 4 ["value"] S_is_word :=
  dv_pr M sc_is_word (fun _ _ _ _ _ _ us hl => match us, hl with | [_], _ => rfl) (fun _ => rfl) fun f cdv A outer s H E hr => ⟨_,
(pss_one (ps_ret (pe_and (pe_callB (r := rIsi K) call_isi (by rfl) B.b_isinstance (by decide +kernel) (pa_cons (pv 0) (pa_cons (pe_bltn (v := .ty "tuple") (by rfl) B.b_tuple (by decide +kernel) rfl) pa_nil))) (pe_and (pe_cmpR op_le (pe_callB (r := rLenQ K) call_len_seq (by rfl) B.b_len (by decide +kernel) (pa_cons (pv 0) pa_nil)) (pe_glob (v := .int 12) rfl B.k_MOST_LONG.choose_spec ⟨_, rfl⟩) (nomark _)) (pe_one (pe_callB (r := rAll K) (cr_all rfl) (by rfl) B.b_all (by decide +kernel) (pa_cons (pe_lc (own := [("letter", 1)]) rfl sc_is_word.nd (pi_tup (pv 0)) (blkOk_by (own := [("letter", 1)]) (N := N_is_word) (sc := defScope s_is_word) (by decide +kernel)) (fun _ _ _ _ _ => (pg_name (i := 1) sc_is_word.nd rfl (Or.inl rfl))) (fun _ _ _ _ _ => pts_nil) (fun _ _ _ _ _ => (pe_cd D_is_letter (hr.mono (by decide)) (by rfl) (pa_cons (pv 1) pa_nil)))) pa_nil))))))), fun ns vs t hok => by
  obtain ⟨v, rfl, h1⟩ := tpa1 t
  simp only [wordOk, Bool.and_eq_true, decide_eq_true_eq, List.all_eq_true] at hok
  refine ret_of (ed_is (ed_and (ed_isiT (ed_var rfl h1)) fun _ => ed_and (ed_le (ed_len (ed_var rfl h1)) ed_int) fun _ => ed_all (bs := ns.map fun n => decide (1 ≤ n) && decide (n ≤ 12)) (Eln.el (eln_is (eln_map (its := ns) (fun n => .bool (decide (1 ≤ n) && decide (n ≤ 12))) (by omega) (Ei.of (ei_tup (ed_var rfl h1))) fun n hn x H1 e r => hb_name rfl (em_call n True.intro (ea_cons (ed_var rfl r) ea_nil))) (by rw [List.map_map]; rfl)))) ?_)
  simp only [PyData.bool.injEq, Bool.true_and, Bool.and_eq_true, decide_eq_true_eq, List.all_eq_true, List.mem_map, id_eq, forall_exists_index, and_imp, forall_apply_eq_imp_iff₂, List.length_map]
  exact ⟨by omega, fun n hn => hok.2 n hn⟩⟩
abbrev s_does_rise : Stmt := topS 36
abbrev N_does_rise : List PySem.Str := ["upper", "lower", "up", "low"]
theorem sc_does_rise : FnScope N_does_rise ["upper", "lower"] (defScope s_does_rise) := ⟨rfl, rfl, rfl, by decide +kernel, rfl, by decide +kernel, by decide +kernel⟩
def rises (a b : List Int) : Bool := decide (b.length ≤ a.length) && (List.zipWith (fun u l => decide (u < l)) a b).all id
abbrev S_does_rise : Sp := Pr (fun i : List Int × List Int => [pT i.1, pT i.2]) (fun i => i.1.length ≤ 1000) (fun i => Dt (.bool (rises i.1 i.2)))
theorem d_does_rise (B : Bt mg) (M : Md K mg "does_rise" s_does_rise) : Dv P w K mg base "does_rise" 1 ["upper", "lower"] S_does_rise :=
  dv_pr M sc_does_rise (fun _ _ _ _ _ _ us hl => match us, hl with | [_, _], _ => rfl) (fun _ => rfl) fun f cdv A outer s H E hr => ⟨_,
(pss_one (ps_ret (pe_and (pe_cmpR op_le (pe_callB (r := rLenQ K) call_len_seq (by rfl) B.b_len (by decide +kernel) (pa_cons (pv 1) pa_nil)) (pe_callB (r := rLenQ K) call_len_seq (by rfl) B.b_len (by decide +kernel) (pa_cons (pv 0) pa_nil)) (nomark _)) (pe_one (pe_callB (r := rAll K) (cr_all rfl) (by rfl) B.b_all (by decide +kernel) (pa_cons (pe_lc (own := [("up", 2), ("low", 3)]) rfl sc_does_rise.nd (RZ.pi_zipA (by rfl) B.b_zip (pa_cons (pv 0) (pa_cons (pv 1) pa_nil))) (blkOk_by (own := [("up", 2), ("low", 3)]) (N := N_does_rise) (sc := defScope s_does_rise) (by decide +kernel)) (fun _ _ _ _ _ => (ws_pair (K := K) rfl rfl (pg_name (i := 2) sc_does_rise.nd rfl (Or.inl rfl)) (pg_name (i := 3) sc_does_rise.nd rfl (Or.inl rfl)))) (fun _ _ _ _ _ => pts_nil) (fun _ _ _ _ _ => (pe_cmpR op_gt (pv 3) (pv 2) (nomark _)))) pa_nil)))))), fun ⟨a, b⟩ vs t hok => by
  obtain ⟨v, w, rfl, h1, h2⟩ := tpa2 t
  simp only at h1 h2 hok
  have ez : List.zipWith (fun d e => PyData.tuple [d, e]) (a.map PyData.int) (b.map PyData.int) = (List.zipWith Prod.mk a b).map fun p => PyData.tuple [.int p.1, .int p.2] := by
    rw [List.zipWith_map, List.map_zipWith]
  have hi := ei_zipT (K := K) (ok := any) (ed_var (σ := L2.start N_does_rise [v, w]) (k := 0) rfl h1) (ed_var (k := 1) rfl h2)
  rw [ez] at hi
  refine ret_of (ed_is (ed_and (ed_le (ed_len (ed_var rfl h2)) (ed_len (ed_var rfl h1))) fun _ => ed_all (bs := (List.zipWith Prod.mk a b).map fun p => decide (p.1 < p.2)) (Eln.el (eln_is (eln_map (its := List.zipWith Prod.mk a b) (fun p => .bool (decide (p.1 < p.2))) (by rw [List.length_zipWith]; omega) (Ei.of hi) fun p hp x H1 e r => hb_pair r (fun _ _ => rfl) fun c d tc td => ed_gt (ed_var rfl td) (ed_var rfl tc)) (by rw [List.map_map]; rfl)))) ?_)
  unfold rises
  rw [List.map_zipWith]
  simp⟩
end
end WS
/-! WsI: laws of data; rows; amounts. -/
namespace WS
open PySem PySem.Spec PyProof.Rows L2
mutual
theorem plain_lay : ∀ d : PyData, plain d = true → d.canLay0 = true
  | .int _, _ => by simp [PyData.canLay0]
  | .tuple ds, h => by simp only [PyData.canLay0]; exact plainA_lay ds (by simpa [plain] using h)
  | .list ds, h => by simp only [PyData.canLay0]; exact plainA_lay ds (by simpa [plain] using h)
  | .none, h => by simp [plain] at h
  | .bool _, h => by simp [plain] at h
  | .str _, h => by simp [plain] at h
  | .dict _, h => by simp [plain] at h
theorem plainA_lay : ∀ ds : List PyData, plainA ds = true → PyData.canLayAll0 ds = true
  | [], _ => by simp [PyData.canLayAll0]
  | d :: ds, h => by
    simp only [plainA, Bool.and_eq_true] at h
    simp only [PyData.canLayAll0, Bool.and_eq_true]
    exact ⟨plain_lay d h.1, plainA_lay ds h.2⟩
end
theorem plainA_all {ds : List PyData} (h : ∀ d ∈ ds, plain d = true) : plainA ds = true := by
  induction ds with
  | nil => rfl
  | cons a r ih => simp only [plainA, Bool.and_eq_true]; exact ⟨h a (by simp), ih fun d hd => h d (by simp [hd])⟩
theorem depthA_le {ds : List PyData} {n : Nat} (h : ∀ d ∈ ds, d.depth ≤ n) : PyData.depthAll ds ≤ n := by
  induction ds with
  | nil => simp [PyData.depthAll]
  | cons a r ih =>
    simp only [PyData.depthAll]
    have h1 := h a (by simp)
    have h2 := ih fun d hd => h d (by simp [hd])
    omega
theorem plain_ints (ns : List Int) : plainA (ns.map PyData.int) = true := plainA_all fun d hd => by
  obtain ⟨n, _, rfl⟩ := List.mem_map.mp hd
  simp [plain]
theorem depth_ints (ns : List Int) : PyData.depthAll (ns.map PyData.int) ≤ 0 := depthA_le fun d hd => by
  obtain ⟨n, _, rfl⟩ := List.mem_map.mp hd
  simp [PyData.depth]
theorem plain_T (ns : List Int) : plain (pT ns) = true := by simp only [pT, plain]; exact plain_ints ns
theorem depth_T (ns : List Int) : (pT ns).depth ≤ 1 := by simp only [pT, PyData.depth]; have := depth_ints ns; omega
theorem plain_Ts (rs : List (List Int)) : plainA (rs.map pT) = true := plainA_all fun d hd => by
  obtain ⟨n, _, rfl⟩ := List.mem_map.mp hd
  exact plain_T n
theorem depth_Ts (rs : List (List Int)) : PyData.depthAll (rs.map pT) ≤ 1 := depthA_le fun d hd => by
  obtain ⟨n, _, rfl⟩ := List.mem_map.mp hd
  exact depth_T n
theorem plain_R (rs : List (List Int)) : plain (pR rs) = true := by simp only [pR, plain]; exact plain_Ts rs
theorem depth_R (rs : List (List Int)) : (pR rs).depth ≤ 2 := by simp only [pR, PyData.depth]; have := depth_Ts rs; omega
theorem plain_Rs (ts : List (List (List Int))) : plainA (ts.map pR) = true := plainA_all fun d hd => by
  obtain ⟨n, _, rfl⟩ := List.mem_map.mp hd
  exact plain_R n
theorem depth_Rs (ts : List (List (List Int))) : PyData.depthAll (ts.map pR) ≤ 2 := depthA_le fun d hd => by
  obtain ⟨n, _, rfl⟩ := List.mem_map.mp hd
  exact depth_R n
theorem shaped_of {d : PyData} (h : plain d = true) (k : d.depth ≤ 10) : SeqAt.shaped d = true := by
  unfold SeqAt.shaped
  rw [plain_lay d h, Bool.true_and, decide_eq_true_eq]
  omega
theorem eqv_if {d e : PyData} {p : Prop} [Decidable p] (h1 : plain d = true) (h2 : plain e = true) (h : d = e ↔ p) : PyData.eqv d e = decide p := by
  rw [Bool.eq_iff_iff, eqv_iff d e h1 h2, decide_eq_true_eq]
  exact h
theorem int_inj {i j : Int} (h : PyData.int i = PyData.int j) : i = j := by injection h
theorem map_inj {α β : Type} {f : α → β} (hf : ∀ a b, f a = f b → a = b) : ∀ {x y : List α}, x.map f = y.map f → x = y
  | [], [], _ => rfl
  | [], _ :: _, h => by simp at h
  | _ :: _, [], h => by simp at h
  | a :: x, b :: y, h => by
    simp only [List.map_cons, List.cons.injEq] at h
    rw [hf a b h.1, map_inj hf h.2]
theorem pT_inj {a b : List Int} (h : pT a = pT b) : a = b := by
  injection h with h
  exact map_inj (fun _ _ => int_inj) h
theorem pR_inj {a b : List (List Int)} (h : pR a = pR b) : a = b := by
  injection h with h
  exact map_inj (fun _ _ => pT_inj) h
theorem eqv_T (a b : List Int) : PyData.eqv (pT a) (pT b) = decide (a = b) := eqv_if (plain_T a) (plain_T b) ⟨pT_inj, fun h => by rw [h]⟩
theorem eqv_R (a b : List (List Int)) : PyData.eqv (pR a) (pR b) = decide (a = b) := eqv_if (plain_R a) (plain_R b) ⟨pR_inj, fun h => by rw [h]⟩
theorem shaped_T (a : List Int) : SeqAt.shaped (pT a) = true := shaped_of (plain_T a) (Nat.le_trans (depth_T a) (by decide))
theorem shaped_R (a : List (List Int)) : SeqAt.shaped (pR a) = true := shaped_of (plain_R a) (Nat.le_trans (depth_R a) (by decide))
theorem shaped_Li (a : List Int) : SeqAt.shaped (.list (a.map .int)) = true := shaped_of (by simp only [plain]; exact plain_ints a) (by simp only [PyData.depth]; have := depth_ints a; omega)
theorem shaped_LR (a : List PyData) (h : ∀ d ∈ a, ∃ r, d = pR r) : SeqAt.shaped (.list a) = true := shaped_of (by simp only [plain]; exact plainA_all fun d hd => by obtain ⟨r, rfl⟩ := h d hd; exact plain_R r)
  (by simp only [PyData.depth]; have : PyData.depthAll a ≤ 2 := depthA_le fun d hd => by obtain ⟨r, rfl⟩ := h d hd; exact depth_R r
      omega)
theorem eqv_Li (a b : List Int) : PyData.eqv (.list (a.map .int)) (.list (b.map .int)) = decide (a = b) := eqv_if (by simp only [plain]; exact plain_ints a) (by simp only [plain]; exact plain_ints b) ⟨fun h => by injection h with h; exact map_inj (fun _ _ => int_inj) h, fun h => by rw [h]⟩
section
variable {K : PySem.W.Frag} {σ : L2.St} {H : Hp} {te ta tb : TE} {a b : List Int} {ra rb : List (List Int)}
theorem ed_eqT (ha : Ed ta σ H (pT a)) (hb : Ed tb σ H (pT b)) : Ed (tOp (rEqD K) ta tb) σ H (.bool (decide (a = b))) := ed_is (ed_eqD ha hb (shaped_T a) (shaped_T b) (plain_T a) (plain_T b)) (by rw [eqv_T])
theorem ed_neT (ha : Ed ta σ H (pT a)) (hb : Ed tb σ H (pT b)) : Ed (tOp (rNeD K) ta tb) σ H (.bool (!decide (a = b))) := ed_is (ed_neD ha hb (shaped_T a) (shaped_T b)) (by rw [eqv_T])
theorem ed_neR (ha : Ed ta σ H (pR ra)) (hb : Ed tb σ H (pR rb)) : Ed (tOp (rNeD K) ta tb) σ H (.bool (!decide (ra = rb))) := ed_is (ed_neD ha hb (shaped_R ra) (shaped_R rb)) (by rw [eqv_R])
theorem ed_eqLi (ha : El ta σ H (a.map .int)) (hb : El tb σ H (b.map .int)) : Ed (tOp (rEqD K) ta tb) σ H (.bool (decide (a = b))) := ed_is (ed_eqLL ha hb (shaped_Li a) (shaped_Li b)) (by rw [eqv_Li])
theorem el_sortT {ns : List Int} (hs : ns.Pairwise (· ≤ ·)) (h : Ed te σ H (pT ns)) : El (tCB (rSortT K) (tCons te tNil)) σ H (ns.map .int) := fun H1 e Q q => h H1 e _ fun v H2 e2 p => by
  obtain ⟨a, rfl, h1⟩ := Tp.ofT p
  refine ⟨a, ns, rfl, .inl (.inl h1), fun ns' p' hp hsd hn => ?_⟩
  cases sorted_uniq hp hsd hs
  exact q _ _ (e2.trans (sm_new hn)) ⟨p', rfl, _, upd_same, tpa_ints ns⟩
end
section
variable {P : Program} {w : World} {K : PySem.W.Frag} {mg : PySem.Str → Option Value} {base : Heap}
abbrev s_is_filled_row : Stmt := topS 37
abbrev N_is_filled_row : List PySem.Str := ["value"]
theorem sc_is_filled_row : FnScope N_is_filled_row ["value"] (defScope s_is_filled_row) := ⟨rfl, rfl, rfl, by decide +kernel, rfl, by decide +kernel, by decide +kernel⟩
def ascB : List Int → Bool
  | [] => true
  | a :: r => r.all (fun b => decide (a ≤ b)) && ascB r
theorem ascB_iff : ∀ {ns : List Int}, ascB ns = true → ns.Pairwise (· ≤ ·)
  | [], _ => .nil
  | a :: r, h => by
    simp only [ascB, Bool.and_eq_true, List.all_eq_true, decide_eq_true_eq] at h
    exact .cons h.1 (ascB_iff h.2)
def rowOk (ns : List Int) : Bool := wordOk ns && decide (0 < ns.length) && ascB ns
abbrev S_is_filled_row : Sp := Pr (fun ns : List Int => [pT ns]) (fun ns => rowOk ns = true) (fun i => Dt (.bool true))
theorem d_is_filled_row (B : Bt mg) (D_is_word : Dv P w K mg base "is_word" 4 ["value"] S_is_word) (M : Md K mg "is_filled_row" s_is_filled_row) : Dv P w K mg base "is_filled_row" 5 ["value"] S_is_filled_row :=
  dv_pr M sc_is_filled_row (fun _ _ _ _ _ _ us hl => match us, hl with | [_], _ => rfl) (fun _ => rfl) fun f cdv A outer s H E hr => ⟨_,
(pss_one (ps_ret (pe_and (pe_cd D_is_word (hr.mono (by decide)) (by rfl) (pa_cons (pv 0) pa_nil)) (pe_and (pe_cmpR op_gt (pe_callB (r := rLenQ K) call_len_seq (by rfl) B.b_len (by decide +kernel) (pa_cons (pv 0) pa_nil)) pe_int (nomark _)) (pe_one (pe_cmpR (r := rEqD K) (op_eqD hr.units) (pe_callB (r := rSortT K) cr_sortT (by rfl) B.b_sorted (by decide +kernel) (pa_cons (pv 0) pa_nil)) (pe_callTy (r := rListQ K) call_list_of (by rfl) B.b_list (by decide +kernel) (pa_cons (pv 0) pa_nil)) (nomark _))))))), fun ns vs t hok => by
  obtain ⟨v, rfl, h1⟩ := tpa1 t
  simp only [rowOk, Bool.and_eq_true, decide_eq_true_eq] at hok
  refine ret_of (ed_is (ed_and (b := true) (em_call ns hok.1.1 (ea_cons (ed_var rfl h1) ea_nil)) fun _ => ed_and (ed_gt (ed_len (ed_var rfl h1)) ed_int) fun _ => ed_eqLi (el_sortT (ascB_iff hok.2) (ed_var rfl h1)) (Eln.el (eln_list (ed_var rfl h1)))) ?_)
  have := hok.1.2
  simp
  omega⟩
abbrev s_are_rows : Stmt := topS 38
abbrev N_are_rows : List PySem.Str := ["value", "place", "row"]
theorem sc_are_rows : FnScope N_are_rows ["value"] (defScope s_are_rows) := ⟨rfl, rfl, rfl, by decide +kernel, rfl, by decide +kernel, by decide +kernel⟩
def rowsOk (rs : List (List Int)) : Bool := rs.all rowOk && decide ((rs.map fun r => (r.length : Int)).sum ≤ 12) && (List.range (rs.length - 1)).all (fun j => rises (rs.getD j []) (rs.getD (j + 1) [])) && decide (rs.length ≤ 12)
theorem getR_at {rs : List (List Int)} {j : Nat} (h : j < rs.length) : atI (rs.map pT) (j : Int) = some (pT (rs.getD j [])) := by
  refine atI_nat ?_
  simp [h]
theorem rowOk_len {ns : List Int} (h : rowOk ns = true) : ns.length ≤ 12 := by
  simp only [rowOk, wordOk, Bool.and_eq_true, decide_eq_true_eq] at h
  exact h.1.1.1
abbrev S_are_rows : Sp := Pr (fun rs : List (List Int) => [pR rs]) (fun rs => rowsOk rs = true) (fun i => Dt (.bool true))
theorem d_are_rows (B : Bt mg) (D_is_filled_row : Dv P w K mg base "is_filled_row" 5 ["value"] S_is_filled_row) (D_does_rise : Dv P w K mg base "does_rise" 1 ["upper", "lower"] S_does_rise) (M : Md K mg "are_rows" s_are_rows) : Dv P w K mg base "are_rows" 6 ["value"] S_are_rows :=
  dv_pr M sc_are_rows (fun _ _ _ _ _ _ us hl => match us, hl with | [_], _ => rfl) (fun _ => rfl) fun f cdv A outer s H E hr => ⟨_,
(pss_cons (ps_if (PW.pt (pw_or (pt_not (pt_val (pe_callB (r := rIsi K) call_isi (by rfl) B.b_isinstance (by decide +kernel) (pa_cons (pv 0) (pa_cons (pe_bltn (v := .ty "tuple") (by rfl) B.b_tuple (by decide +kernel) rfl) pa_nil))))) (pw_or1 (pt_not (pt_val (pe_callB (r := rAll K) (cr_all rfl) (by rfl) B.b_all (by decide +kernel) (pa_cons (pe_lc (own := [("row", 2)]) rfl sc_are_rows.nd (pi_tup (pv 0)) (blkOk_by (own := [("row", 2)]) (N := N_are_rows) (sc := defScope s_are_rows) (by decide +kernel)) (fun _ _ _ _ _ => (pg_name (i := 2) sc_are_rows.nd rfl (Or.inl rfl))) (fun _ _ _ _ _ => pts_nil) (fun _ _ _ _ _ => (pe_cd D_is_filled_row (hr.mono (by decide)) (by rfl) (pa_cons (pv 2) pa_nil)))) pa_nil))))))) (pss_one (ps_ret pe_bl)) pss_nil)
  (pss_cons (ps_if (pt_cmpR op_gt (pe_callB (r := rSum K) (cr_sum rfl) (by rfl) B.b_sum (by decide +kernel) (pa_cons (pe_lc (own := [("row", 2)]) rfl sc_are_rows.nd (pi_tup (pv 0)) (blkOk_by (own := [("row", 2)]) (N := N_are_rows) (sc := defScope s_are_rows) (by decide +kernel)) (fun _ _ _ _ _ => (pg_name (i := 2) sc_are_rows.nd rfl (Or.inl rfl))) (fun _ _ _ _ _ => pts_nil) (fun _ _ _ _ _ => (pe_callB (r := rLenQ K) call_len_seq (by rfl) B.b_len (by decide +kernel) (pa_cons (pv 2) pa_nil)))) pa_nil)) (pe_glob (v := .int 12) rfl B.k_MOST_LONG.choose_spec ⟨_, rfl⟩) (nomark _)) (pss_one (ps_ret pe_bl)) pss_nil)
  (pss_one (ps_ret (pe_callB (r := rAll K) (cr_all rfl) (by rfl) B.b_all (by decide +kernel) (pa_cons (pe_lc (own := [("place", 1)]) rfl sc_are_rows.nd (pi_range1 (by rfl) B.b_range (pa_cons (pe_op op_sub (pe_callB (r := rLenQ K) call_len_seq (by rfl) B.b_len (by decide +kernel) (pa_cons (pv 0) pa_nil)) pe_int) pa_nil)) (blkOk_by (own := [("place", 1)]) (N := N_are_rows) (sc := defScope s_are_rows) (by decide +kernel)) (fun _ _ _ _ _ => (pg_name (i := 1) sc_are_rows.nd rfl (Or.inl rfl))) (fun _ _ _ _ _ => pts_nil) (fun _ _ _ _ _ => (pe_cd D_does_rise (hr.mono (by decide)) (by rfl) (pa_cons (pe_ix (r := rIxT K) ix_tup (pv 0) (pv 1) (fun _ _ => rfl)) (pa_cons (pe_ix (r := rIxT K) ix_tup (pv 0) (pe_op op_add (pv 1) pe_int) (fun _ _ => rfl)) pa_nil))))) pa_nil)))))), fun rs vs t hok => by
  obtain ⟨v, rfl, h1⟩ := tpa1 t
  simp only [rowsOk, Bool.and_eq_true, decide_eq_true_eq, List.all_eq_true, List.mem_range] at hok
  obtain ⟨⟨⟨k1, k2⟩, k3⟩, k4⟩ := hok
  intro Q q
  refine q_ifF (et_or (b := false) (c := false) (et_not (b := true) (et_B (ed_isiT (ed_var rfl h1)))) fun _ => et_not (b := true) (et_B (ed_is (ed_all (bs := rs.map fun _ => true) (Eln.el (eln_is (eln_map (its := rs) (fun n => .bool true) (by omega) (Ei.of (ei_tup (ed_var rfl h1))) fun n hn x H1 e r => hb_name rfl (em_call n (k1 n hn) (ea_cons (ed_var rfl r) ea_nil))) (by rw [List.map_map]; rfl)))) (by simp)))) fun H1 e => ?_
  refine q_ifF (et_is (et_test (ed_gt (ed_sumL (ns := rs.map fun r => (r.length : Int)) (Eln.el (eln_is (eln_map (its := rs) (fun n => .int n.length) (by omega) (Ei.of (ei_tup (ed_var rfl (h1.up e)))) fun n hn x H1 e r => hb_name rfl (ed_is (ed_len (ds := n.map PyData.int) (ed_var rfl r)) (by rw [List.length_map]))) (by rw [List.map_map]; rfl)))) ed_int)) (decide_eq_false (by omega))) fun H2 e2 => ?_
  have h2 := h1.up (e.trans e2)
  refine s_ret (ed_is (ed_all (bs := (List.range (((rs.map pT).length : Int) - 1).toNat).map fun j => rises (rs.getD j []) (rs.getD (j + 1) [])) (Eln.el (eln_is (eln_map (its := List.range (((rs.map pT).length : Int) - 1).toNat) (fun j => .bool (rises (rs.getD j []) (rs.getD (j + 1) []))) (by simp; omega) (Ei.of (ei_rng1 (by simp; omega) (ed_sub (ed_len (ed_var rfl h2)) ed_int))) fun j hj x H1' e' r => hb_name rfl ?_) (by rw [List.map_map]; rfl)))) ?_) fun v' H' e' p => q v' H' ((e.trans e2).trans e') p
  · have hj' : j + 1 < rs.length := by
      have := List.mem_range.mp hj
      simp at this
      omega
    refine em_call (rs.getD j [], rs.getD (j + 1) []) ?_ (ea_cons (ed_ixT (ed_var rfl (h2.up e')) (ed_var rfl r) (getR_at (by omega))) (ea_cons (ed_ixT (ed_var rfl (h2.up e')) (ed_add (ed_var rfl r) ed_int) (getR_at (j := j + 1) hj')) ea_nil))
    have := rowOk_len (k1 (rs.getD j []) (by simp [List.getD, show j < rs.length by omega]))
    simp only
    omega
  · simp only [PyData.bool.injEq, List.all_eq_true, List.mem_map, id_eq, forall_exists_index, and_imp, forall_apply_eq_imp_iff₂, List.mem_range, List.length_map]
    exact fun j hj => k3 j (by omega)⟩
abbrev s_shape_of : Stmt := topS 43
abbrev N_shape_of : List PySem.Str := ["rows", "row"]
theorem sc_shape_of : FnScope N_shape_of ["rows"] (defScope s_shape_of) := ⟨rfl, rfl, rfl, by decide +kernel, rfl, by decide +kernel, by decide +kernel⟩
abbrev S_shape_of : Sp := Pr (fun rs : List (List Int) => [pR rs]) (fun rs => rs.length ≤ 1000) (fun rs => Dt (pT (rs.map fun r => (r.length : Int))))
theorem d_shape_of (B : Bt mg) (M : Md K mg "shape_of" s_shape_of) : Dv P w K mg base "shape_of" 1 ["rows"] S_shape_of :=
  dv_pr M sc_shape_of (fun _ _ _ _ _ _ us hl => match us, hl with | [_], _ => rfl) (fun _ => rfl) fun f cdv A outer s H E hr => ⟨_,
(pss_one (ps_ret (pe_callTy (r := rTupQ K) call_tuple_of (by rfl) B.b_tuple (by decide +kernel) (pa_cons (pe_lc (own := [("row", 1)]) rfl sc_shape_of.nd (pi_tup (pv 0)) (blkOk_by (own := [("row", 1)]) (N := N_shape_of) (sc := defScope s_shape_of) (by decide +kernel)) (fun _ _ _ _ _ => (pg_name (i := 1) sc_shape_of.nd rfl (Or.inl rfl))) (fun _ _ _ _ _ => pts_nil) (fun _ _ _ _ _ => (pe_callB (r := rLenQ K) call_len_seq (by rfl) B.b_len (by decide +kernel) (pa_cons (pv 1) pa_nil)))) pa_nil)))), fun rs vs t hok => by
  obtain ⟨v, rfl, h1⟩ := tpa1 t
  exact ret_of (ed_tuple (Eln.el (eln_is (eln_map (its := rs) (fun n => .int n.length) (by omega) (Ei.of (ei_tup (ed_var rfl h1))) fun n hn x H1 e r => hb_name rfl (ed_is (ed_len (ds := n.map PyData.int) (ed_var rfl r)) (by rw [List.length_map]))) (by rw [List.map_map]; rfl))))⟩
abbrev s_are_amounts : Stmt := topS 47
abbrev N_are_amounts : List PySem.Str := ["value", "most", "many"]
theorem sc_are_amounts : FnScope N_are_amounts ["value", "most"] (defScope s_are_amounts) := ⟨rfl, rfl, rfl, by decide +kernel, rfl, by decide +kernel, by decide +kernel⟩
def amOk (ns : List Int) : Bool := decide (ns.length ≤ 12) && ns.all fun n => decide (0 ≤ n) && decide (n ≤ 100)
abbrev S_are_amounts : Sp := Pr (fun i : List Int × Int => [pT i.1, .int i.2]) (fun i => amOk i.1 = true ∧ 12 ≤ i.2) (fun _ => Dt (.bool true))
theorem d_are_amounts (B : Bt mg) (M : Md K mg "are_amounts" s_are_amounts) : Dv P w K mg base "are_amounts" 1 ["value", "most"] S_are_amounts :=
  dv_pr M sc_are_amounts (fun _ _ _ _ _ _ us hl => match us, hl with | [_, _], _ => rfl) (fun _ => rfl) fun f cdv A outer s H E hr => ⟨_,
(pss_cons (ps_if (PW.pt (pw_or (pt_not (pt_val (pe_callB (r := rIsi K) call_isi (by rfl) B.b_isinstance (by decide +kernel) (pa_cons (pv 0) (pa_cons (pe_bltn (v := .ty "tuple") (by rfl) B.b_tuple (by decide +kernel) rfl) pa_nil))))) (pw_or1 (pt_cmpR op_gt (pe_callB (r := rLenQ K) call_len_seq (by rfl) B.b_len (by decide +kernel) (pa_cons (pv 0) pa_nil)) (pv 1) (nomark _))))) (pss_one (ps_ret pe_bl)) pss_nil)
  (pss_one (ps_ret (pe_callB (r := rAll K) (cr_all rfl) (by rfl) B.b_all (by decide +kernel) (pa_cons (pe_lc (own := [("many", 2)]) rfl sc_are_amounts.nd (pi_tup (pv 0)) (blkOk_by (own := [("many", 2)]) (N := N_are_amounts) (sc := defScope s_are_amounts) (by decide +kernel)) (fun _ _ _ _ _ => (pg_name (i := 2) sc_are_amounts.nd rfl (Or.inl rfl))) (fun _ _ _ _ _ => pts_nil) (fun _ _ _ _ _ => (pe_and (pe_callB (r := rIsi K) call_isi (by rfl) B.b_isinstance (by decide +kernel) (pa_cons (pv 2) (pa_cons (pe_bltn (v := .ty "int") (by rfl) B.b_int (by decide +kernel) rfl) pa_nil))) (pe_and (pe_not (pe_callB (r := rIsi K) call_isi (by rfl) B.b_isinstance (by decide +kernel) (pa_cons (pv 2) (pa_cons (pe_bltn (v := .ty "bool") (by rfl) B.b_bool (by decide +kernel) rfl) pa_nil)))) (pe_one (pe_cmpR op_ge (pv 2) pe_int (nomark _))))))) pa_nil))))), fun ⟨ns, m⟩ vs t ⟨hok, hm⟩ => by
  obtain ⟨v, w, rfl, h1, h2⟩ := tpa2 t
  simp only at h1 h2 hok hm
  simp only [amOk, Bool.and_eq_true, decide_eq_true_eq, List.all_eq_true] at hok
  intro Q q
  refine q_ifF (et_or (b := false) (c := false) (et_not (b := true) (et_B (ed_isiT (ed_var rfl h1)))) fun _ => et_is (et_test (ed_gt (ed_len (ed_var rfl h1)) (ed_var rfl h2))) (decide_eq_false (by rw [List.length_map]; omega))) fun H1 e => ?_
  refine s_ret (ed_is (ed_all (bs := ns.map fun n => decide (0 ≤ n)) (Eln.el (eln_is (eln_map (its := ns) (fun n => .bool (decide (0 ≤ n))) (by omega) (Ei.of (ei_tup (ed_var rfl (h1.up e)))) fun n hn x H1 e r => hb_name rfl (ed_is (ed_and (ed_isiI (ed_var rfl r)) fun _ => ed_and (ed_not (ed_isiB (ed_var rfl r))) fun _ => ed_ge (ed_var rfl r) ed_int) (by simp))) (by rw [List.map_map]; rfl)))) ?_) fun v' H' e' p => q v' H' (e.trans e') p
  simp only [PyData.bool.injEq, List.all_eq_true, List.mem_map, id_eq, forall_exists_index, and_imp, forall_apply_eq_imp_iff₂, decide_eq_true_eq]
  exact fun n hn => (hok.2 n hn).1⟩
abbrev s_check_amounts : Stmt := topS 48
abbrev N_check_amounts : List PySem.Str := ["value"]
theorem sc_check_amounts : FnScope N_check_amounts ["value"] (defScope s_check_amounts) := ⟨rfl, rfl, rfl, by decide +kernel, rfl, by decide +kernel, by decide +kernel⟩
abbrev S_check_amounts : Sp := S_ok1 (fun ns : List Int => [pT ns]) (fun ns => amOk ns = true)
theorem d_check_amounts (B : Bt mg) (D_are_amounts : Dv P w K mg base "are_amounts" 1 ["value", "most"] S_are_amounts) (M : Md K mg "check_amounts" s_check_amounts) : Dv P w K mg base "check_amounts" 2 ["value"] S_check_amounts :=
  dv_pr M sc_check_amounts (fun _ _ _ _ _ _ us hl => match us, hl with | [_], _ => rfl) (fun _ => rfl) fun f cdv A outer s H E hr => ⟨_,
(pss_one (ps_if (pt_not (pt_val (pe_cd D_are_amounts (hr.mono (by decide)) (by rfl) (pa_cons (pv 0) (pa_cons (pe_glob (v := .int 12) rfl B.k_MOST_LONG.choose_spec ⟨_, rfl⟩) pa_nil))))) (pss_one ps_never) pss_nil)), fun ns vs t hp => by
  obtain ⟨v, rfl, h1⟩ := tpa1 t
  exact fun Q q => s_ifF (et_not (b := true) (et_B (em_call (ns, (12 : Int)) ⟨hp, Int.le_refl 12⟩ (ea_cons (ed_var rfl h1) (ea_cons ed_int ea_nil))))) fun H' e => q _ H' e True.intro⟩
end
end WS
/-! WsJ: parts_below. -/
namespace WS
open PySem PySem.Spec PyProof.Rows L2
/-! ### the mirror -/
def roomAt (sh : List Int) (i : Nat) : Int := sh.getD i 0 - (if i + 1 < sh.length then sh.getD (i + 1) 0 else 0)
def pbStep (room part : Int) (found : List (List Int × Int)) : List (List Int × Int) :=
  found.flatMap fun hl => (List.range (min room hl.2 + 1).toNat).map fun (k : Nat) => (hl.1 ++ [part - (k : Int)], hl.2 - (k : Int))
def pbUp (sh : List Int) (size : Int) : Nat → List (List Int × Int)
  | 0 => [([], size)]
  | i + 1 => pbStep (roomAt sh i) (sh.getD i 0) (pbUp sh size i)
def partsBelow (sh : List Int) (size : Int) : List (List Int) := ((pbUp sh size sh.length).filter fun hl => decide (hl.2 = 0)).map fun hl => trimmed hl.1
/-- shapes that stay small -/
structure Small (sh : List Int) : Prop where
  len : sh.length ≤ 6
  nn : ∀ n ∈ sh, 0 ≤ n
  sum : sh.sum ≤ 6
theorem nn_sum {l : List Int} (h : ∀ n ∈ l, 0 ≤ n) : 0 ≤ l.sum := by
  induction l with
  | nil => simp
  | cons a r ih =>
    rw [List.sum_cons]
    have := h a (by simp)
    have := ih fun n hn => h n (by simp [hn])
    omega
theorem mem_le_sum {l : List Int} (h : ∀ n ∈ l, 0 ≤ n) {n : Int} (hn : n ∈ l) : n ≤ l.sum := by
  induction l with
  | nil => cases hn
  | cons a r ih =>
    rw [List.sum_cons]
    have h0 := h a (by simp)
    have h1 := nn_sum fun n hn => h n (List.mem_cons_of_mem a hn)
    rcases List.mem_cons.mp hn with rfl | hn
    · omega
    · have := ih (fun n hn => h n (by simp [hn])) hn
      omega
theorem Small.at {sh : List Int} (h : Small sh) (i : Nat) : 0 ≤ sh.getD i 0 ∧ sh.getD i 0 ≤ 6 := by
  by_cases hi : i < sh.length
  · have hm : sh.getD i 0 ∈ sh := by simp [List.getD, hi]
    have := mem_le_sum h.nn hm
    have := h.sum
    exact ⟨h.nn _ hm, by omega⟩
  · have : sh.getD i 0 = 0 := by simp [List.getD, show sh.length ≤ i by omega]
    omega
theorem Small.room {sh : List Int} (h : Small sh) (i : Nat) : roomAt sh i ≤ sh.getD i 0 ∧ -6 ≤ roomAt sh i := by
  unfold roomAt
  have := h.at i
  have := h.at (i + 1)
  split <;> omega
theorem fm_le {α β : Type} {f : α → List β} {c : Nat} : ∀ {l : List α}, (∀ x ∈ l, (f x).length ≤ c) → (l.flatMap f).length ≤ l.length * c
  | [], _ => by simp
  | a :: r, h => by
    rw [List.flatMap_cons, List.length_append, List.length_cons, Nat.succ_mul]
    have h1 := h a (by simp)
    have h2 := fm_le (l := r) (fun x hx => h x (by simp [hx]))
    omega
theorem pow_ge : ∀ n : Nat, n + 1 ≤ 2 ^ n
  | 0 => by simp
  | n + 1 => by have := pow_ge n; rw [Nat.pow_succ]; omega
structure PbOk (sh : List Int) (size : Int) (i : Nat) (found : List (List Int × Int)) : Prop where
  num : found.length ≤ 2 ^ (sh.take i).sum.toNat
  len : ∀ hl ∈ found, hl.1.length = i
  nn : ∀ hl ∈ found, ∀ n ∈ hl.1, 0 ≤ n
  sum : ∀ hl ∈ found, hl.1.sum ≤ (sh.take i).sum
  left : ∀ hl ∈ found, 0 ≤ hl.2 ∧ hl.2 ≤ size
theorem take_nn {sh : List Int} (h : ∀ n ∈ sh, 0 ≤ n) (i : Nat) : 0 ≤ (sh.take i).sum := nn_sum fun n hn => h n (List.mem_of_mem_take hn)
theorem sum_take' {sh : List Int} {i : Nat} (hi : i < sh.length) : (sh.take (i + 1)).sum = (sh.take i).sum + sh.getD i 0 := by rw [sum_take, if_pos hi]
theorem pb_ok {sh : List Int} {size : Int} (h : Small sh) (hs : 0 ≤ size) : ∀ i, i ≤ sh.length → PbOk sh size i (pbUp sh size i)
  | 0, _ => ⟨by simp [pbUp], by simp [pbUp], by simp [pbUp], by simp [pbUp], by simp [pbUp, hs]⟩
  | i + 1, hi => by
    have p := pb_ok h hs i (by omega)
    have r := h.room i
    have a := h.at i
    have nx : roomAt sh i = sh.getD i 0 ∨ roomAt sh i = sh.getD i 0 - sh.getD (i + 1) 0 := by unfold roomAt; split <;> simp
    have a1 := h.at (i + 1)
    have key : ∀ hl' ∈ pbUp sh size (i + 1), ∃ hl ∈ pbUp sh size i, ∃ k : Nat, (k : Int) ≤ roomAt sh i ∧ (k : Int) ≤ hl.2 ∧ hl' = (hl.1 ++ [sh.getD i 0 - (k : Int)], hl.2 - (k : Int)) := by
      intro hl' hm
      simp only [pbUp, pbStep, List.mem_flatMap, List.mem_map, List.mem_range] at hm
      obtain ⟨hl, h1, k, h2, h3⟩ := hm
      exact ⟨hl, h1, k, by omega, by omega, h3.symm⟩
    have st := sum_take' (sh := sh) (i := i) (by omega)
    have tn := take_nn h.nn i
    refine ⟨?_, fun hl' hm => ?_, fun hl' hm n hn => ?_, fun hl' hm => ?_, fun hl' hm => ?_⟩
    · have := fm_le (f := fun (hl : List Int × Int) => (List.range (min (roomAt sh i) hl.2 + 1).toNat).map fun (k : Nat) => (hl.1 ++ [sh.getD i 0 - (k : Int)], hl.2 - (k : Int))) (l := pbUp sh size i) (c := 2 ^ (sh.getD i 0).toNat) (fun x hx => by
        rw [List.length_map, List.length_range]
        refine Nat.le_trans ?_ (pow_ge _)
        omega)
      refine Nat.le_trans this ?_
      rw [st, Int.toNat_add tn a.1, Nat.pow_add]
      exact Nat.mul_le_mul_right _ p.num
    · obtain ⟨hl, h1, k, h2, h3, rfl⟩ := key hl' hm
      simp [p.len hl h1]
    · obtain ⟨hl, h1, k, h2, h3, rfl⟩ := key hl' hm
      rcases List.mem_append.mp hn with hn | hn
      · exact p.nn hl h1 n hn
      · rw [List.mem_singleton.mp hn]; omega
    · obtain ⟨hl, h1, k, h2, h3, rfl⟩ := key hl' hm
      have := p.sum hl h1
      rw [st, List.sum_append]
      simp
      omega
    · obtain ⟨hl, h1, k, h2, h3, rfl⟩ := key hl' hm
      have := p.left hl h1
      simp only
      omega
theorem pb_num {sh : List Int} {size : Int} (h : Small sh) (hs : 0 ≤ size) {i : Nat} (hi : i ≤ sh.length) : (pbUp sh size i).length ≤ 64 := by
  have p := pb_ok h hs i hi
  have h1 : (sh.take i).sum ≤ 6 := by
    have e : sh.sum = (sh.take i).sum + (sh.drop i).sum := by rw [← List.sum_append, List.take_append_drop]
    have := nn_sum (l := sh.drop i) fun n hn => h.nn n (List.mem_of_mem_drop hn)
    have := h.sum
    omega
  exact Nat.le_trans p.num (Nat.le_trans (Nat.pow_le_pow_right (by decide) (show (sh.take i).sum.toNat ≤ 6 by omega)) (by decide))
theorem trim_sum {l : List Int} (h : ∀ n ∈ l, 0 ≤ n) : (trimmed l).sum = l.sum := by
  induction l with
  | nil => rfl
  | cons a r ih =>
    have h0 := h a (by simp)
    have e := ih fun n hn => h n (by simp [hn])
    unfold trimmed at e ⊢
    rw [List.filter_cons]
    split
    · rw [List.sum_cons, List.sum_cons, e]
    · rename_i hz
      have hz : ¬ 0 < a := by simpa using hz
      rw [List.sum_cons, e]
      omega
theorem pb_small {sh : List Int} {size : Int} (h : Small sh) (hs : 0 ≤ size) {l : List Int} (hl : l ∈ partsBelow sh size) : Small l := by
  simp only [partsBelow, List.mem_map, List.mem_filter] at hl
  obtain ⟨hd, ⟨h1, _⟩, rfl⟩ := hl
  have p := pb_ok h hs sh.length (Nat.le_refl _)
  refine ⟨?_, fun n hn => p.nn hd h1 n (List.mem_filter.mp hn).1, ?_⟩
  · have := List.length_filter_le (fun n => decide (0 < n)) hd.1
    have := p.len hd h1
    have := h.len
    unfold trimmed
    omega
  · rw [trim_sum (p.nn hd h1)]
    have := p.sum hd h1
    rw [List.take_length] at this
    have := h.sum
    omega
theorem pb_len {sh : List Int} {size : Int} (h : Small sh) (hs : 0 ≤ size) : (partsBelow sh size).length ≤ 64 := by
  unfold partsBelow
  rw [List.length_map]
  exact Nat.le_trans (List.length_filter_le _ _) (pb_num h hs (Nat.le_refl _))

/-! ### the walk -/
section
variable {P : Program} {w : World} {K : PySem.W.Frag} {mg : PySem.Str → Option Value} {base : Heap}
abbrev s_parts_below : Stmt := topS 49
abbrev N_parts_below : List PySem.Str := ["shape", "size", "found", "row", "part", "room", "head", "left", "less"]
theorem sc_parts_below : FnScope N_parts_below ["shape", "size"] (defScope s_parts_below) := ⟨rfl, rfl, rfl, by decide +kernel, rfl, by decide +kernel, by decide +kernel⟩
abbrev S_parts_below : Sp := Prn (fun i : List Int × Int => [pT i.1, .int i.2]) (fun i => Small i.1 ∧ 0 ≤ i.2 ∧ i.2 ≤ 100) (fun i => (partsBelow i.1 i.2).map pT)
theorem d_parts_below (B : Bt mg) (D_trimmed : Dv P w K mg base "trimmed" 1 ["numbers"] S_trimmed) (M : Md K mg "parts_below" s_parts_below) : Dv P w K mg base "parts_below" 2 ["shape", "size"] S_parts_below :=
  dv_prn M sc_parts_below (fun _ _ _ _ _ _ us hl => match us, hl with | [_, _], _ => rfl) (fun _ => rfl) fun f cdv A outer s H E hr => ⟨_,
(pss_cons (ps_set (i := 2) sc_parts_below.nd rfl (.inl rfl) (pe_lst (pa_cons (pe_tup (pa_cons (pe_tup pa_nil) (pa_cons (pv 1) pa_nil))) pa_nil)))
  (pss_cons (ps_for PassesOwn.never rfl (pi_enumT (by rfl) B.b_enumerate (pa_cons (pv 0) pa_nil)) (ws_pair (K := K) rfl rfl (pg_name (i := 3) sc_parts_below.nd rfl (.inl rfl)) (pg_name (i := 4) sc_parts_below.nd rfl (.inr rfl)))
  (pss_cons (ps_set (i := 5) sc_parts_below.nd rfl (.inr rfl) (pe_op op_sub (pv 4) (pe_ifExp (pt_cmpR op_lt (pe_op op_add (pv 3) pe_int) (pe_callB (r := rLenQ K) call_len_seq (by rfl) B.b_len (by decide +kernel) (pa_cons (pv 0) pa_nil)) (nomark _)) (pe_ix (r := rIxT K) ix_tup (pv 0) (pe_op op_add (pv 3) pe_int) (fun _ _ => rfl)) pe_int)))
  (pss_one (ps_setLc2 (i := 2) (own := [("head", 6), ("left", 7), ("less", 8)]) (vs1 := [8]) rfl sc_parts_below.nd rfl rfl (sw_true rfl rfl rfl (by decide +kernel)) (pi_list (pv 2)) (blkOk_by (own := [("head", 6), ("left", 7), ("less", 8)]) (N := N_parts_below) (sc := defScope s_parts_below) (by decide +kernel)) (by decide) (fun _ _ _ _ _ => (ws_pair (K := K) rfl rfl (pg_name (i := 6) sc_parts_below.nd rfl (Or.inl rfl)) (pg_name (i := 7) sc_parts_below.nd rfl (Or.inl rfl)))) (fun _ _ _ _ _ => pts_nil) (fun _ _ _ _ _ => (pi_range1 (by rfl) B.b_range (pa_cons (pe_op op_add (pe_callB (call_min2 rfl) (by rfl) B.b_min (by decide +kernel) (pa_cons (pv 5) (pa_cons (pv 7) pa_nil))) pe_int) pa_nil))) (fun _ _ _ _ _ => (pg_name (i := 8) sc_parts_below.nd rfl (Or.inl rfl))) (fun _ _ _ _ _ => pts_nil) (fun _ _ _ _ _ => (pe_tup (pa_cons (pe_tup (ws_star (K := K) rfl (pv 6) (pa_cons (pe_op op_sub (pv 4) (pv 8)) pa_nil))) (pa_cons (pe_op op_sub (pv 7) (pv 8)) pa_nil))))))))
  (pss_one (ps_ret (pe_lc (own := [("head", 6), ("left", 7)]) rfl sc_parts_below.nd (pi_list (pv 2)) (blkOk_by (own := [("head", 6), ("left", 7)]) (N := N_parts_below) (sc := defScope s_parts_below) (by decide +kernel)) (fun _ _ _ _ _ => (ws_pair (K := K) rfl rfl (pg_name (i := 6) sc_parts_below.nd rfl (Or.inl rfl)) (pg_name (i := 7) sc_parts_below.nd rfl (Or.inl rfl)))) (fun _ _ _ _ _ => (pts_one (pt_cmpR op_eq (pv 7) pe_int (nomark _)))) (fun _ _ _ _ _ => (pe_cd D_trimmed (hr.mono (by decide)) (by rfl) (pa_cons (pv 6) pa_nil)))))))), fun ⟨sh, size⟩ vs t ⟨hsm, hz1, hz2⟩ => by
  obtain ⟨v, w, rfl, h1, h2⟩ := tpa2 t
  simp only at h1 h2 hsm hz1 hz2
  cases Tp.ofInt h2
  intro Q q
  refine q_set (P := Li ((pbUp sh size 0).map pP)) (Eln.el (eln_lst (ds := [pP ([], size)]) (by show (1 : Nat) ≤ 100000; decide) (ea_cons (ed_tup (by show (2 : Nat) ≤ 100000; decide) (ea_cons (ed_tup (ds := []) (by show (0 : Nat) ≤ 100000; decide) ea_nil) (ea_cons (ed_varI rfl) ea_nil))) ea_nil))) fun x2 H1 e1 l1 => ?_
  obtain ⟨p0, rfl, l1⟩ := l1
  refine q_for (ei_enumT (ed_var rfl (h1.up e1))) (fun i σ' H' => ∃ p x3 x4 x5, σ' = [some v, some (.int size), some (.ref p), x3, x4, x5, none, none, none] ∧ Ls H' p ((pbUp sh size i).map pP)) (fun H' e' => ⟨p0, none, none, none, rfl, l1.up e'⟩) ?_ ?_
  · rintro i d hi x σ1 H3 H4 s3 ⟨p, x3, x4, x5, rfl, l⟩ s4 tx Nx n
    rw [List.getElem?_mapIdx, List.getElem?_map] at hi
    have hir : i < sh.length := by
      cases q : sh[i]? with
      | none => rw [q] at hi; cases hi
      | some y => exact (List.getElem?_eq_some_iff.mp q).1
    have eat : sh[i]? = some (sh.getD i 0) := by simp [hir]
    rw [eat] at hi
    cases hi
    have b := (e1.trans s3).trans s4
    have ok := pb_ok hsm hz1 i (by omega)
    have hrm := hsm.room i
    have hat := hsm.at i
    refine g_pair tx fun u y tu ty => ?_
    cases Tp.ofInt tu
    cases Tp.ofInt ty
    refine q_set (P := Dt (.int (roomAt sh i))) ?_ fun z H5 e5 tz => ?_
    · unfold roomAt
      refine ed_sub (ed_varI rfl) (em_if (b := decide (i + 1 < sh.length)) (et_is (et_test (ed_lt (ed_add (ed_varI rfl) ed_int) (ed_len (ed_var rfl (h1.up b))))) (by rw [List.length_map]; exact decide_eq_decide.mpr (by omega))) (fun z => ?_) fun z => ?_)
      · have z := of_decide_eq_true z
        rw [if_pos z]
        exact ed_ixT (ed_var rfl (h1.up b)) (ed_add (ed_varI rfl) ed_int) (getD_at (j := i + 1) z)
      · have z := of_decide_eq_false z
        rw [if_neg z]
        exact ed_int
    cases Tp.ofInt tz
    refine s_setN (ds := (pbUp sh size (i + 1)).map pP) (eln_is (eln_lc2 (its := pbUp sh size i) (fun hl => min (roomAt sh i) hl.2 + 1) (fun hl k => pP (hl.1 ++ [sh.getD i 0 - k], hl.2 - k)) (fun hl hm => ?_) ?_ (Ei.of (ei_list (el_var rfl ((l.up s4).up e5)))) fun hl hm x' H6 e6 r => hb_pair r (fun _ _ => rfl) fun a c ta tc => ⟨?_, fun k hk H7 k7 e7 => hb_name rfl ?_⟩) ?_) fun p' H6 hp' e6 l6 => n _ H6 (e5.trans e6) ⟨p', _, _, _, rfl, l6⟩
    · have := ok.left hl hm
      omega
    · have e : ((pbUp sh size i).flatMap fun it => (List.range (min (roomAt sh i) it.2 + 1).toNat).map fun (k : Nat) => pP (it.1 ++ [sh.getD i 0 - (k : Int)], it.2 - (k : Int))).length = (pbUp sh size (i + 1)).length := by
        simp only [pbUp, pbStep, List.length_flatMap, List.length_map]
      rw [e]
      exact Nat.le_trans (pb_num hsm hz1 hir) (by decide)
    · cases Tp.ofInt tc
      exact ed_add (ed_min (ed_varI rfl) (ed_varI rfl)) ed_int
    · cases Tp.ofInt tc
      have hlen := ok.len hl hm
      have hsl := hsm.len
      exact ed_tup (ds := [pT (hl.1 ++ [sh.getD i 0 - (k : Int)]), .int (hl.2 - (k : Int))]) (by show (2 : Nat) ≤ 100000; decide) (ea_cons (ed_is (ed_tup (ds := hl.1.map PyData.int ++ [.int (sh.getD i 0 - (k : Int))]) (by simp; omega) (ea_star (ed_var rfl (Tp.kp k7 ta)) (ea_cons (ed_sub (ed_varI rfl) (ed_varI rfl)) ea_nil))) (by simp [pT])) (ea_cons (ed_sub (ed_varI rfl) (ed_varI rfl)) ea_nil))
    · simp only [pbUp, pbStep, List.map_flatMap, List.map_map]
      rfl
  · rintro σ' H' s' ⟨p, x3, x4, x5, rfl, l⟩
    rw [List.length_mapIdx, List.length_map] at l
    have ok := pb_ok hsm hz1 sh.length (Nat.le_refl _)
    refine s_retN (eln_is (eln_filter (its := pbUp sh size sh.length) (fun hl => pT (trimmed hl.1)) (fun hl => decide (hl.2 = 0)) (Nat.le_trans (pb_num hsm hz1 (Nat.le_refl _)) (by decide)) (Ei.of (ei_list (el_var rfl l))) fun hl hm x' H6 e6 r => hb_pair r (fun _ _ => rfl) fun a c ta tc => ⟨?_, fun _ => ?_⟩) ?_) Q fun p' H6 hp' e6 l6 => q p' H6 ((e1.trans s').free hp') ((e1.trans s').trans e6) l6
    · exact et_test (ed_eqI (ed_var rfl tc) ed_int)
    · exact em_call hl.1 (by have := ok.len hl hm; have := hsm.len; omega) (ea_cons (ed_var rfl ta) ea_nil)
    · unfold partsBelow
      rw [List.map_map]
      rfl⟩
end
end WS
/-! WsK: tables_counted, table_count. -/
namespace WS
open PySem PySem.Spec PyProof.Rows L2
/-! ### the mirror -/
abbrev Cnt := List (List Int × Int)
def getA (kvs : Cnt) (k : List Int) : Int := ((kvs.find? fun kv => decide (kv.1 = k)).map (·.2)).getD 0
def putA (kvs : Cnt) (k : List Int) (v : Int) : Cnt :=
  if (kvs.any fun kv => decide (kv.1 = k)) = true then kvs.map fun kv => if kv.1 = k then (kv.1, v) else kv else kvs ++ [(k, v)]
def tcAdd (ways : Int) (acc : Cnt) (less : List Int) : Cnt := putA acc less (getA acc less + ways)
def tcIn (many : Int) (later : Cnt) (hw : List Int × Int) : Cnt := (partsBelow hw.1 many).foldl (tcAdd hw.2) later
def tcStep (now : Cnt) (many : Int) : Cnt := now.foldl (tcIn many) []
/-- no stage grows beyond 1000 -/
def tcRun : List Int → Cnt → Option Cnt
  | [], now => some now
  | a :: r, now => let n := tcStep now a; if n.length ≤ 1000 then tcRun r n else none
def tablesCounted (sh am : List Int) : Option Int := (tcRun am.reverse [(sh, 1)]).map fun kvs => getA kvs []
theorem putA_len (kvs : Cnt) (k : List Int) (v : Int) : kvs.length ≤ (putA kvs k v).length := by
  unfold putA
  split <;> simp
theorem fold_len {α : Type} {f : Cnt → α → Cnt} (h : ∀ a x, a.length ≤ (f a x).length) : ∀ (l : List α) (a : Cnt), a.length ≤ (l.foldl f a).length
  | [], a => Nat.le_refl _
  | x :: r, a => Nat.le_trans (h a x) (fold_len h r (f a x))
theorem tcAdd_len (w : Int) (a : Cnt) (x : List Int) : a.length ≤ (tcAdd w a x).length := putA_len _ _ _
theorem tcIn_len (m : Int) (a : Cnt) (x : List Int × Int) : a.length ≤ (tcIn m a x).length := fold_len (tcAdd_len x.2) _ _
theorem fold_take {α β : Type} {f : β → α → β} {l : List α} {i : Nat} {d : α} (h : l[i]? = some d) (b : β) : (l.take (i + 1)).foldl f b = f ((l.take i).foldl f b) d := by
  rw [take_succ' h, List.foldl_append]
  rfl
theorem fold_part {α : Type} {f : Cnt → α → Cnt} (h : ∀ a x, a.length ≤ (f a x).length) (l : List α) (i : Nat) (a : Cnt) : ((l.take i).foldl f a).length ≤ (l.foldl f a).length := by
  have e : l.foldl f a = (l.drop i).foldl f ((l.take i).foldl f a) := by rw [← List.foldl_append, List.take_append_drop]
  rw [e]
  exact fold_len h _ _
/-- the keys stay small -/
def Keys (kvs : Cnt) : Prop := ∀ kv ∈ kvs, Small kv.1
theorem putA_keys {kvs : Cnt} {k : List Int} {v : Int} (h : Keys kvs) (hk : Small k) : Keys (putA kvs k v) := by
  unfold putA
  split
  · intro kv hm
    obtain ⟨kv', h1, h2⟩ := List.mem_map.mp hm
    have := h kv' h1
    split at h2 <;> subst h2 <;> exact this
  · intro kv hm
    rcases List.mem_append.mp hm with hm | hm
    · exact h kv hm
    · rw [List.mem_singleton.mp hm]; exact hk
theorem fold_keys {α : Type} {f : Cnt → α → Cnt} {S : α → Prop} (h : ∀ a x, Keys a → S x → Keys (f a x)) : ∀ (l : List α) (a : Cnt), (∀ x ∈ l, S x) → Keys a → Keys (l.foldl f a)
  | [], a, _, k => k
  | x :: r, a, hl, k => fold_keys h r (f a x) (fun y hy => hl y (by simp [hy])) (h a x k (hl x (by simp)))
theorem tcIn_keys {m : Int} (hm : 0 ≤ m) {a : Cnt} {x : List Int × Int} (h : Keys a) (hx : Small x.1) : Keys (tcIn m a x) :=
  fold_keys (S := Small) (fun a y ka hy => putA_keys ka hy) _ _ (fun y hy => pb_small hx hm hy) h
theorem tcStep_keys {m : Int} (hm : 0 ≤ m) {now : Cnt} (h : Keys now) : Keys (tcStep now m) :=
  fold_keys (α := List Int × Int) (S := fun x => Small x.1) (fun a y ka hy => tcIn_keys hm ka hy) now [] h (fun kv hkv => by cases hkv)
/-! ### dicts of tuples of ints -/
def ky (k : List Int) : List Key := k.map Sum.inl
def toD (kvs : Cnt) : List (List Key × V) := kvs.map fun kv => (ky kv.1, V.int kv.2)
theorem ky_inj {a b : List Int} : ky a = ky b ↔ a = b := ⟨fun h => map_inj (fun _ _ h => by injection h) h, fun h => by rw [h]⟩
theorem ky_map (k : List Int) : (ky k).map kV = k.map V.int := by unfold ky; rw [List.map_map]; rfl
theorem valV_toD (kvs : Cnt) (k : List Int) : (valV (toD kvs) (ky k)).getD (.int 0) = .int (getA kvs k) := by
  unfold valV getA toD
  rw [List.find?_map]
  have e : ((fun (kv : List Key × V) => decide (kv.1 = ky k)) ∘ fun (kv : List Int × Int) => (ky kv.1, V.int kv.2)) = fun kv => decide (kv.1 = k) := by
    funext kv
    exact decide_eq_decide.mpr ky_inj
  rw [e]
  cases kvs.find? fun kv => decide (kv.1 = k) <;> rfl
theorem putK_toD (kvs : Cnt) (k : List Int) (v : Int) : putK (toD kvs) (ky k) (.int v) = toD (putA kvs k v) := by
  unfold putK putA toD
  have e : ((kvs.map fun kv => (ky kv.1, V.int kv.2)).any fun kv => decide (kv.1 = ky k)) = kvs.any fun kv => decide (kv.1 = k) := by
    rw [List.any_map]
    congr 1
    funext kv
    exact decide_eq_decide.mpr ky_inj
  rw [e]
  split
  · rw [List.map_map, List.map_map]
    refine List.map_congr_left fun kv _ => ?_
    simp only [Function.comp]
    by_cases h : kv.1 = k
    · rw [if_pos h, if_pos (ky_inj.mpr h)]
    · rw [if_neg h, if_neg (fun z => h (ky_inj.mp z))]
  · rw [List.map_append]
    rfl
section
variable {K : PySem.W.Frag} {σ : L2.St} {H : Hp} {ty tv tx : TE} {D : Ends} {u t : TS} {ks : List Int} {kvs : Cnt} {p : Addr} {i : Nat} {n : Int}
theorem Tp.ky {v : V} (h : Tp H v (pT ks)) : ∃ b, v = .ref b ∧ H b = some (.tup ((WS.ky ks).map kV)) := by
  obtain ⟨b, rfl, h1⟩ := h.ofT
  exact ⟨b, rfl, by rw [ky_map]; exact h1⟩
theorem ed_dget (hv : σ[i]? = some (some (.ref p))) (hp : H p = some (.dT (toD kvs))) (hy : Ed ty σ H (pT ks)) : Ed (tDGet2 (tVar i) ty (tC (.int 0))) σ H (.int (getA kvs ks)) := fun H1 e Q q =>
  ⟨_, hv, p, rfl, .inr ⟨_, .inl (e _ _ hp)⟩, hy H1 e _ fun y H2 e2 t => by
    obtain ⟨b, rfl, hb⟩ := Tp.ky t
    exact ⟨_, DGet.t (e2 _ _ (e _ _ hp)) hb, by rw [valV_toD]; exact q _ H2 e2 (.int _)⟩⟩
theorem s_dput (hv : σ[i]? = some (some (.ref p))) (hp : H p = some (.dT (toD kvs))) (hy : Ed ty σ H (pT ks)) (h : Ed tv σ H (.int n)) (hz : kvs.length < 100000) (k : ∀ H', Same (dels H [p]) H' → H' p = some (.dT (toD (putA kvs ks n))) → D.nx σ H') : sDPut (tVar i) ty tv D σ H :=
  h H (.refl _) _ fun v H1 e1 t1 => ⟨_, hv, hy H1 e1 _ fun y H2 e2 t2 => by
    obtain ⟨b, rfl, hb⟩ := Tp.ky t2
    cases Tp.ofInt t1
    refine ⟨p, _, rfl, DPut.t (e2 _ _ (e1 _ _ hp)) hb (by unfold toD; rw [List.length_map]; exact sz_lt hz), k _ (Same.dels_upd (Same.to_dels (e1.trans e2)) (by simp)) ?_⟩
    rw [putK_toD, upd_same]⟩
theorem ei_listN {te : TE} {ds : List PyData} {o : HO} (hp : H p = some o) (ho : ∀ xs, o ≠ .lst xs) (h : El te σ H ds) : Ei (iList K te) σ H ds Tp (· ∉ [p]) := fun H1 e R q => h H1 e _ fun v H2 e2 t => by
  obtain ⟨a, rfl, xs, h1, h2⟩ := t
  refine ⟨a, rfl, ⟨xs, .inl (.inl h1)⟩, q _ H2 e2 (itb_list tp_mono h1 h2.ra fun z => ?_)⟩
  rw [List.mem_singleton.mp z, e2 _ _ (e _ _ hp)] at h1
  cases h1
  exact ho _ rfl
theorem q_dnew (k : ∀ p H', H p = none → Same H H' → H' p = some (.dT (toD [])) → u D (σ.set i (some (.ref p))) H') : tSeq (tAsg tDNewT (gName i)) u D σ H := fun p hp => k p _ hp (sm_new hp) upd_same
theorem q_disp {tk : TE} (hk : Ed tk σ H (pT ks)) (k : ∀ p H', H p = none → Same H H' → H' p = some (.dT (toD [(ks, n)])) → u D (σ.set i (some (.ref p))) H') : tSeq (tAsg (tDispT tk (tC (.int n))) (gName i)) u D σ H := fun p hp =>
  hk _ (sm_new hp) _ fun v H1 e1 t1 => by
    obtain ⟨b, rfl, hb⟩ := Tp.ky t1
    exact ⟨e1 _ _ upd_same, b, ky ks, rfl, hb, k p _ hp (sm_mut ((sm_new hp).trans e1) hp) upd_same⟩
theorem q_lock {o : HO} (h : H p = some o) (m : Mut (some o)) (k : ∀ od, t { nx := fun σ' H' => H' p = some (.frz od o) ∧ u D σ' (upd H' p o), rt := fun v H' => H' p = some (.frz od o) ∧ D.rt v (upd H' p o), bk := fun σ' H' => H' p = some (.frz od o) ∧ D.bk σ' (upd H' p o), ct := fun σ' H' => H' p = some (.frz od o) ∧ D.ct σ' (upd H' p o) } σ (upd H p (.frz od o))) :
    tSeq (tLock t) u D σ H := ⟨p, o, h, m, k⟩
theorem ei_items {od : Obj} {ok : Addr → Prop} (hv : σ[i]? = some (some (.ref p))) (hp : H p = some (.frz od (.dT (toD kvs)))) : Ei (iItemsT (tVar i)) σ H kvs (fun H v kv => Tp H v (pP kv)) ok := fun H1 e R q => by
  refine ⟨_, hv, p, od, toD kvs, rfl, e _ _ hp, q _ H1 (.refl _) ⟨[], _, _, fun a ha => by simp at ha, by have := walk_itemsT (d := p) (o := od) (kvs := toD kvs); rw [show (toD kvs).length = kvs.length by simp [toD]] at this; exact this, fun H3 k3 _ => ⟨k3 _ _ (e _ _ hp) rfl, fun j x H4 _ y => ?_⟩⟩⟩
  obtain ⟨T, k, v, q', h1, rfl, hT, rfl, hq⟩ := y
  unfold toD at h1
  rw [List.getElem?_map] at h1
  cases hk : kvs[j]? with
  | none => rw [hk] at h1; cases h1
  | some kv =>
    rw [hk] at h1
    cases h1
    rw [ky_map] at hq
    obtain ⟨s1, s2⟩ := pair_new hT rfl (tp_T hq) (.int kv.2)
    exact ⟨s1, kv, rfl, s2⟩
end
section
variable {P : Program} {w : World} {K : PySem.W.Frag} {mg : PySem.Str → Option Value} {base : Heap}
abbrev s_tables_counted : Stmt := topS 50
abbrev N_tables_counted : List PySem.Str := ["shape", "amounts", "now", "many", "later", "held", "ways", "less"]
theorem sc_tables_counted : FnScope N_tables_counted ["shape", "amounts"] (defScope s_tables_counted) := ⟨rfl, rfl, rfl, by decide +kernel, rfl, by decide +kernel, by decide +kernel⟩
theorem tcRun_step {a : Int} {r : List Int} {now k : Cnt} (h : tcRun (a :: r) now = some k) : (tcStep now a).length ≤ 1000 ∧ tcRun r (tcStep now a) = some k := by
  unfold tcRun at h
  dsimp only at h
  split at h
  · rename_i hz; exact ⟨hz, h⟩
  · cases h
/-- the stage i -/
theorem tcRun_at {am : List Int} {now k : Cnt} (h : tcRun am now = some k) {i : Nat} (hi : i ≤ am.length) : tcRun (am.drop i) ((am.take i).foldl tcStep now) = some k := by
  induction am generalizing now i with
  | nil => have : i = 0 := by simpa using hi
           subst this; exact h
  | cons a r ih =>
    cases i with
    | zero => exact h
    | succ i => exact ih (tcRun_step h).2 (by simpa using hi)
abbrev S_tables_counted : Sp := Pr (fun i : List Int × List Int × Int => [pT i.1, pT i.2.1]) (fun i => Small i.1 ∧ amOk i.2.1 = true ∧ tablesCounted i.1 i.2.1 = some i.2.2) (fun i => Dt (.int i.2.2))
theorem d_tables_counted (B : Bt mg) (D_parts_below : Dv P w K mg base "parts_below" 2 ["shape", "size"] S_parts_below) (M : Md K mg "tables_counted" s_tables_counted) : Dv P w K mg base "tables_counted" 3 ["shape", "amounts"] S_tables_counted :=
  dv_pr M sc_tables_counted (fun _ _ _ _ _ _ us hl => match us, hl with | [_, _], _ => rfl) (fun _ => rfl) fun f cdv A outer s H E hr => ⟨_,
(pss_cons (ps_set (i := 2) sc_tables_counted.nd rfl (.inl rfl) (pe_dispT (hu_of hr) (pv 0) pe_int))
  (pss_cons (ps_for PassesOwn.never rfl (pi_tup (pe_revT (pv 1))) (pg_name (i := 3) sc_tables_counted.nd rfl (.inl rfl))
  (pss_cons (ps_set (i := 4) sc_tables_counted.nd rfl (.inl rfl) pe_dnewT)
  (pss_cons (ps_lock (ps_for PassesOwn.never rfl (pi_itemsT (pv 2)) (ws_pair (K := K) rfl rfl (pg_name (i := 5) sc_tables_counted.nd rfl (.inl rfl)) (pg_name (i := 6) sc_tables_counted.nd rfl (.inl rfl)))
  (pss_one (ps_for PassesOwn.never rfl (pi_list (pe_cd D_parts_below (hr.mono (by decide)) (by rfl) (pa_cons (pv 5) (pa_cons (pv 3) pa_nil)))) (pg_name (i := 7) sc_tables_counted.nd rfl (.inl rfl))
  (pss_one (ps_dput (hu_of hr) (pv 4) (pv 7) (pe_op op_add (pe_dget2 (hu_of hr) (pv 4) (pv 7) pe_int ⟨rfl, rfl, rfl, rfl⟩) (pv 6)) rfl))))))
  (pss_one (ps_set (i := 2) sc_tables_counted.nd rfl (.inl rfl) (pv 4))))))
  (pss_one (ps_ret (pe_dget2 (hu_of hr) (pv 2) (pe_tup pa_nil) pe_int ⟨rfl, rfl, rfl, rfl⟩))))), fun ⟨sh, am, r⟩ vs t ⟨hsm, ham, hr⟩ => by
  obtain ⟨v, w, rfl, h1, h2⟩ := tpa2 t
  simp only at h1 h2 hsm ham hr
  obtain ⟨kz, hrun, rfl⟩ : ∃ kz, tcRun am.reverse [(sh, 1)] = some kz ∧ getA kz [] = r := by
    unfold tablesCounted at hr
    cases q : tcRun am.reverse [(sh, 1)] with
    | none => rw [q] at hr; cases hr
    | some kz => rw [q] at hr; exact ⟨kz, rfl, by simpa using hr⟩
  simp only [amOk, Bool.and_eq_true, decide_eq_true_eq, List.all_eq_true] at ham
  intro Q q
  refine q_disp (n := 1) (ed_var rfl h1) fun p0 H1 hp0 e1 l1 => ?_
  refine q_for (its := am.reverse) (Ei.of (g := PyData.int) (by rw [List.map_reverse]; exact ei_tup (ed_revT (ed_var rfl (h2.up e1))))) (fun i σ' H' => ∃ p x3 x4 x5 x6 x7, σ' = [some v, some w, some (.ref p), x3, x4, x5, x6, x7] ∧ H' p = some (.dT (toD ((am.reverse.take i).foldl tcStep [(sh, 1)]))) ∧ Keys ((am.reverse.take i).foldl tcStep [(sh, 1)])) (fun H' e' => ⟨p0, none, none, none, none, none, rfl, e' _ _ l1, fun kv hkv => by rw [List.mem_singleton.mp hkv]; exact hsm⟩) ?_ ?_
  · rintro i many hi x σ1 H3 H4 s3 ⟨p, x3, x4, x5, x6, x7, rfl, l, hk⟩ s4 tx Nx n
    have hil : i < am.reverse.length := (List.getElem?_eq_some_iff.mp hi).1
    have hm := ham.2 many (List.mem_reverse.mp (List.mem_of_getElem? hi))
    have hst := tcRun_at hrun (i := i) (by omega)
    rw [List.drop_eq_getElem_cons hil, show am.reverse[i] = many from (List.getElem?_eq_some_iff.mp hi).2] at hst
    have hbig := (tcRun_step hst).1
    rw [fold_take hi] at n
    generalize hnow : (am.reverse.take i).foldl tcStep [(sh, 1)] = now at l hk hst hbig n
    refine q_dnew fun p4 H5 hp4 e5 l5 => ?_
    have hne : p ≠ p4 := fun z => by have l4 := s4 _ _ l; rw [z, hp4] at l4; cases l4
    cases Tp.ofInt tx
    have l5' := e5 _ _ (s4 _ _ l)
    refine q_lock (p := p) (o := .dT (toD now)) l5' True.intro fun od => ?_
    refine for_go [p4] (fun a ha => by rw [List.mem_singleton.mp ha, upd_ne (Ne.symm hne)]; exact ⟨_, l5, rfl⟩) (ei_items (od := od) rfl upd_same) (fun j σ' H' => ∃ x5 x6 x7, σ' = [some v, some w, some (.ref p), some (.int many), some (.ref p4), x5, x6, x7] ∧ H' p4 = some (.dT (toD ((now.take j).foldl (tcIn many) [])))) (fun H' e' => ⟨x5, x6, x7, rfl, e' _ _ (by rw [upd_ne (Ne.symm hne)]; exact l5)⟩) ?_ ?_
    · rintro j kv hj x' σ1 H6 H7 s6 ⟨x5, x6, x7, rfl, l6⟩ s7 tx' Nx2 n2
      rw [fold_take hj] at n2
      have hb6 : ((now.take (j + 1)).foldl (tcIn many) []).length ≤ 1000 := Nat.le_trans (fold_part (tcIn_len many) now (j + 1) []) hbig
      rw [fold_take hj] at hb6
      have hkv : Small kv.1 := hk kv (List.mem_of_getElem? hj)
      generalize (now.take j).foldl (tcIn many) [] = acc at l6 n2 hb6
      refine g_pair tx' fun held ways th tw => ?_
      cases Tp.ofInt tw
      refine for_go [p4] (fun a ha => by rw [List.mem_singleton.mp ha]; exact ⟨_, s7 _ _ l6, rfl⟩) (its := partsBelow kv.1 many) (Ei.of (g := pT) (ei_listN (s7 _ _ l6) (fun xs z => nomatch z) (Eln.el (eln_call (kv.1, many) ⟨hkv, hm.1, hm.2⟩ (ea_cons (ed_var rfl th) (ea_cons (ed_varI rfl) ea_nil)))))) (fun i σ' H' => ∃ x7, σ' = [some v, some w, some (.ref p), some (.int many), some (.ref p4), some held, some (.int kv.2), x7] ∧ H' p4 = some (.dT (toD (((partsBelow kv.1 many).take i).foldl (tcAdd kv.2) acc)))) (fun H' e' => ⟨x7, rfl, e' _ _ (s7 _ _ l6)⟩) ?_ ?_
      · rintro i less hl x'' σ1 H8 H9 s8 ⟨x7, rfl, l8⟩ s9 tl Nx3 n3
        rw [fold_take hl] at n3
        have hb8 : (((partsBelow kv.1 many).take i).foldl (tcAdd kv.2) acc).length ≤ 1000 := Nat.le_trans (fold_part (tcAdd_len kv.2) _ i acc) hb6
        generalize ((partsBelow kv.1 many).take i).foldl (tcAdd kv.2) acc = acc8 at l8 n3 hb8
        refine s_dput rfl (s9 _ _ l8) (ed_var rfl tl) (ed_add (ed_dget rfl (s9 _ _ l8) (ed_var rfl tl)) (ed_varI rfl)) (by omega) fun H10 s10 l10 => n3 _ H10 s10 ⟨_, rfl, l10⟩
      · rintro σ' H' s' ⟨x7, rfl, l'⟩
        rw [List.take_length] at l'
        exact n2 _ H' s' ⟨_, _, _, rfl, l'⟩
    · rintro σ' H' s' ⟨x5, x6, x7, rfl, l'⟩
      rw [List.take_length] at l'
      have hz : H' p = some (.frz od (.dT (toD now))) := s' _ _ (by rw [dels_some (by simpa using hne)]; exact upd_same)
      have back : Same H4 (upd H' p (.dT (toD now))) := fun b o hb => by
        by_cases hbp : b = p
        · subst hbp
          rw [s4 _ _ l] at hb
          rw [← hb]
          exact upd_same
        · rw [upd_ne hbp]
          refine s' _ _ ?_
          rw [dels_some (fun z => by rw [List.mem_singleton.mp z, hp4] at hb; cases hb), upd_ne hbp]
          exact e5 _ _ hb
      exact ⟨hz, s_set (P := fun v _ => v = .ref p4) (em_var rfl (fun _ _ _ _ h => h) rfl) fun z H'' e'' ez => by
        subst ez
        exact n _ H'' (back.trans e'') ⟨p4, _, _, _, _, _, rfl, e'' _ _ (by rw [upd_ne (Ne.symm hne)]; exact l'), tcStep_keys hm.1 hk⟩⟩
  · rintro σ' H' s' ⟨p, x3, x4, x5, x6, x7, rfl, l, hk⟩
    rw [List.take_length] at l
    have e : am.reverse.foldl tcStep [(sh, 1)] = kz := by
      have := tcRun_at hrun (i := am.reverse.length) (Nat.le_refl _)
      rw [List.drop_length, List.take_length] at this
      exact Option.some.inj this
    rw [e] at l
    exact s_ret (ed_dget (ks := []) rfl l (ed_tup (by show (0 : Nat) ≤ 100000; decide) ea_nil)) fun z H2 e2 tz => q z H2 ((e1.trans s').trans e2) tz⟩
abbrev s_table_count : Stmt := topS 51
abbrev N_table_count : List PySem.Str := ["shape", "amounts"]
theorem sc_table_count : FnScope N_table_count ["shape", "amounts"] (defScope s_table_count) := ⟨rfl, rfl, rfl, by decide +kernel, rfl, by decide +kernel, by decide +kernel⟩
theorem shOk_small {ns : List Int} (h : shOk ns = true) : Small ns := by
  simp only [shOk, Bool.and_eq_true, decide_eq_true_eq, List.all_eq_true] at h
  exact ⟨h.1.1.1, fun n hn => by have := h.1.1.2 n hn; omega, h.1.2⟩
abbrev S_table_count : Sp := Pr (fun i : List Int × List Int × Int => [pT i.1, pT i.2.1]) (fun i => shOk i.1 = true ∧ amOk i.2.1 = true ∧ (if i.2.1.sum = i.1.sum then tablesCounted i.1 i.2.1 else some 0) = some i.2.2) (fun i => Dt (.int i.2.2))
theorem d_table_count (B : Bt mg) (D_check_shape : Dv P w K mg base "check_shape" 3 ["value", "most"] S_check_shape) (D_check_amounts : Dv P w K mg base "check_amounts" 2 ["value"] S_check_amounts) (D_tables_counted : Dv P w K mg base "tables_counted" 3 ["shape", "amounts"] S_tables_counted)
    (M : Md K mg "table_count" s_table_count) : Dv P w K mg base "table_count" 4 ["shape", "amounts"] S_table_count :=
  dv_pr M sc_table_count (fun _ _ _ _ _ _ us hl => match us, hl with | [_, _], _ => rfl) (fun _ => rfl) fun f cdv A outer s H E hr => ⟨_,
(pss_cons (ps_expr (pe_cd D_check_shape (hr.mono (by decide)) (by rfl) (pa_cons (pv 0) (pa_cons (pe_glob (v := .int 40) rfl B.k_MOST_BOXES.choose_spec ⟨_, rfl⟩) pa_nil))))
  (pss_cons (ps_expr (pe_cd D_check_amounts (hr.mono (by decide)) (by rfl) (pa_cons (pv 1) pa_nil)))
  (pss_one (ps_ret (pe_ifExp (pt_cmpR op_eq (pe_callB (r := rSumT K) (cr_sumT rfl) (by rfl) B.b_sum (by decide +kernel) (pa_cons (pv 1) pa_nil)) (pe_callB (r := rSumT K) (cr_sumT rfl) (by rfl) B.b_sum (by decide +kernel) (pa_cons (pv 0) pa_nil)) (nomark _)) (pe_cd D_tables_counted (hr.mono (by decide)) (by rfl) (pa_cons (pv 0) (pa_cons (pv 1) pa_nil))) pe_int))))), fun ⟨sh, am, r⟩ vs t ⟨hsh, ham, hr⟩ => by
  obtain ⟨v, w, rfl, h1, h2⟩ := tpa2 t
  simp only at h1 h2 hsh ham hr
  intro Q q
  refine q_drop (em_call (sh, (40 : Int)) ⟨hsh, le40.1, le40.2⟩ (ea_cons (ed_var rfl h1) (ea_cons ed_int ea_nil))) fun _ H1 e1 _ => ?_
  refine q_drop (em_call am ham (ea_cons (ed_var rfl (h2.up e1)) ea_nil)) fun _ H2 e2 _ => ?_
  have e := e1.trans e2
  refine s_ret (P := Dt (.int r)) (em_if (b := decide (am.sum = sh.sum)) (et_test (ed_eqI (ed_sumT (ed_var rfl (h2.up e))) (ed_sumT (ed_var rfl (h1.up e))))) (fun z => ?_) fun z => ?_) fun z H3 e3 tz => q z H3 (e.trans e3) tz
  · rw [if_pos (of_decide_eq_true z)] at hr
    exact em_call (sh, am, r) ⟨shOk_small hsh, ham, hr⟩ (ea_cons (ed_var rfl (h1.up e)) (ea_cons (ed_var rfl (h2.up e)) ea_nil))
  · rw [if_neg (of_decide_eq_false z)] at hr
    cases hr
    exact ed_int⟩
end
end WS
/-! WsL: with_letters, rows_filled. -/
namespace WS
open PySem PySem.Spec PyProof.Rows L2
/-! ### the mirror -/
def wlRow (rows : List (List Int)) (sh : List Int) (letter : Int) (i : Nat) : List Int :=
  let own := if i < rows.length then rows.getD i [] else []
  own ++ List.replicate (sh.getD i 0 - (own.length : Int)).toNat letter
def withLetters (rows : List (List Int)) (sh : List Int) (letter : Int) : List (List Int) := (List.range sh.length).map (wlRow rows sh letter)
/-- over the amounts reversed -/
def rfRev : List Int → List Int → List (List (List Int))
  | [], _ => [[]]
  | a :: r, sh => (partsBelow sh a).flatMap fun less => (rfRev r less).map fun rows => withLetters rows sh ((r.length : Int) + 1)
def rowsFilled (sh am : List Int) : List (List (List Int)) := rfRev am.reverse sh
theorem wl_len (rows : List (List Int)) (sh : List Int) (l : Int) : (withLetters rows sh l).length = sh.length := by simp [withLetters]
/-- rows of at most 6 -/
def R6 (rows : List (List Int)) : Prop := rows.length ≤ 6 ∧ ∀ r ∈ rows, r.length ≤ 6
theorem R6.at {rows : List (List Int)} (h : R6 rows) (i : Nat) : (rows.getD i []).length ≤ 6 := by
  by_cases hi : i < rows.length
  · exact h.2 _ (by simp [List.getD, hi])
  · simp [List.getD, show rows.length ≤ i by omega]
theorem wl_r6 {rows : List (List Int)} {sh : List Int} {l : Int} (h : R6 rows) (hs : Small sh) : R6 (withLetters rows sh l) := by
  refine ⟨by rw [wl_len]; exact hs.len, fun r hr => ?_⟩
  obtain ⟨i, _, rfl⟩ := List.mem_map.mp hr
  have h1 := h.at i
  have h2 := hs.at i
  unfold wlRow
  dsimp only
  rw [List.length_append, List.length_replicate]
  generalize sh.getD i 0 = g at h2 ⊢
  split
  · omega
  · simp only [List.length_nil]
    omega
theorem rf_r6 : ∀ {am sh : List Int}, (∀ a ∈ am, 0 ≤ a) → Small sh → ∀ rows ∈ rfRev am sh, R6 rows
  | [], sh, _, _, rows, h => by
    have : rows = [] := by simpa [rfRev] using h
    subst this
    exact ⟨by simp, fun r hr => by cases hr⟩
  | a :: r, sh, ha, hs, rows, h => by
    simp only [rfRev, List.mem_flatMap, List.mem_map] at h
    obtain ⟨less, h1, rows', h2, rfl⟩ := h
    exact wl_r6 (rf_r6 (fun b hb => ha b (by simp [hb])) (pb_small hs (ha a (by simp)) h1) rows' h2) hs
theorem fm_part {α β : Type} {f : α → List β} {l : List α} {x : α} (h : x ∈ l) : (f x).length ≤ (l.flatMap f).length := by
  induction l with
  | nil => cases h
  | cons a r ih =>
    rw [List.flatMap_cons, List.length_append]
    rcases List.mem_cons.mp h with rfl | h
    · omega
    · have := ih h; omega
theorem fm_take {α β : Type} {f : α → List β} {l : List α} {i : Nat} : ((l.take i).flatMap f).length ≤ (l.flatMap f).length := by
  have e : l.flatMap f = (l.take i).flatMap f ++ (l.drop i).flatMap f := by rw [← List.flatMap_append, List.take_append_drop]
  rw [e, List.length_append]
  omega
section
variable {P : Program} {w : World} {K : PySem.W.Frag} {mg : PySem.Str → Option Value} {base : Heap}
abbrev s_with_letters : Stmt := topS 52
abbrev N_with_letters : List PySem.Str := ["rows", "shape", "letter", "found", "index", "part", "own"]
theorem sc_with_letters : FnScope N_with_letters ["rows", "shape", "letter"] (defScope s_with_letters) := ⟨rfl, rfl, rfl, by decide +kernel, rfl, by decide +kernel, by decide +kernel⟩
abbrev S_with_letters : Sp := Pr (fun i : List (List Int) × List Int × Int => [pR i.1, pT i.2.1, .int i.2.2]) (fun i => R6 i.1 ∧ Small i.2.1) (fun i => Dt (pR (withLetters i.1 i.2.1 i.2.2)))
theorem d_with_letters (B : Bt mg) (M : Md K mg "with_letters" s_with_letters) : Dv P w K mg base "with_letters" 1 ["rows", "shape", "letter"] S_with_letters :=
  dv_pr M sc_with_letters (fun _ _ _ _ _ _ us hl => match us, hl with | [_, _, _], _ => rfl) (fun _ => rfl) fun f cdv A outer s H E hr => ⟨_,
(pss_cons (ps_set (i := 3) sc_with_letters.nd rfl (.inl rfl) (pe_lst pa_nil))
  (pss_cons (ps_for PassesOwn.never rfl (pi_enumT (by rfl) B.b_enumerate (pa_cons (pv 1) pa_nil)) (ws_pair (K := K) rfl rfl (pg_name (i := 4) sc_with_letters.nd rfl (.inl rfl)) (pg_name (i := 5) sc_with_letters.nd rfl (.inl rfl)))
  (pss_cons (ps_set (i := 6) sc_with_letters.nd rfl (.inl rfl) (pe_ifExp (pt_cmpR op_lt (pv 4) (pe_callB (r := rLenQ K) call_len_seq (by rfl) B.b_len (by decide +kernel) (pa_cons (pv 0) pa_nil)) (nomark _)) (pe_ix (r := rIxT K) ix_tup (pv 0) (pv 4) (fun _ _ => rfl)) (pe_tup pa_nil)))
  (pss_one (ps_expr (pe_bm PySem.F.plainAttrs_list PySem.F.slot_list_append PySem.F.type_list_append mt_append (pv 3) (pa_cons (pe_tup (ws_star (K := K) rfl (pv 6) (ws_star (K := K) rfl (pe_op op_rep (pe_lst (pa_cons (pv 2) pa_nil)) (pe_op op_sub (pv 5) (pe_callB (r := rLenQ K) call_len_seq (by rfl) B.b_len (by decide +kernel) (pa_cons (pv 6) pa_nil)))) pa_nil))) pa_nil))))))
  (pss_one (ps_ret (pe_callTy (r := rTupQ K) call_tuple_of (by rfl) B.b_tuple (by decide +kernel) (pa_cons (pv 3) pa_nil)))))), fun ⟨rows, sh, letter⟩ vs t ⟨hr6, hsm⟩ => by
  obtain ⟨v, w, z, rfl, h1, h2, h3⟩ := tpa3 t
  simp only at h1 h2 h3 hr6 hsm
  cases Tp.ofInt h3
  have hsl := hsm.len
  intro Q q
  refine q_setN (eln_lst (ds := []) (by decide) ea_nil) fun p H1 hp e1 l1 => ?_
  obtain ⟨xs, l2, _⟩ := id l1
  have hnew : ∀ a ∈ [p], H a = none := fun a ha => by rw [List.mem_singleton.mp ha]; exact hp
  refine q_forM [p] (fun a ha => by rw [List.mem_singleton.mp ha]; exact ⟨_, l2, rfl⟩) (ei_enumT (ed_var rfl (h2.up e1))) (fun i σ' H' => ∃ x4 x5 x6, σ' = [some v, some w, some (.int letter), some (.ref p), x4, x5, x6] ∧ Ls H' p (((List.range i).map (wlRow rows sh letter)).map pT)) (fun H' e' => ⟨none, none, none, rfl, l1.up e'⟩) ?_ ?_
  · rintro i d hi x σ1 H3 H4 s3 ⟨x4, x5, x6, rfl, l⟩ s4 tx Nx n
    rw [List.getElem?_mapIdx, List.getElem?_map] at hi
    have hir : i < sh.length := by
      cases q : sh[i]? with
      | none => rw [q] at hi; cases hi
      | some y => exact (List.getElem?_eq_some_iff.mp q).1
    have eat : sh[i]? = some (sh.getD i 0) := by simp [hir]
    rw [eat] at hi
    cases hi
    have b : Same H H4 := (Same.of_dels e1 hnew s3).trans s4
    refine g_pair tx fun u y tu ty => ?_
    cases Tp.ofInt tu
    cases Tp.ofInt ty
    have hown : (if i < rows.length then rows.getD i [] else []).length ≤ 6 := by
      have := hr6.at i
      split
      · omega
      · simp
    refine q_set (P := Dt (pT (if i < rows.length then rows.getD i [] else []))) (em_if (b := decide (i < rows.length)) (et_is (et_test (ed_lt (ed_varI rfl) (ed_len (ed_var rfl (h1.up b))))) (by rw [List.length_map]; exact decide_eq_decide.mpr (by omega))) (fun z => ?_) fun z => ?_) fun own H5 e5 town => ?_
    · have z := of_decide_eq_true z
      rw [if_pos z]
      exact ed_ixT (ed_var rfl (h1.up b)) (ed_varI rfl) (getR_at z)
    · have z := of_decide_eq_false z
      rw [if_neg z]
      exact ed_tup (ds := []) (by show (0 : Nat) ≤ 100000; decide) ea_nil
    have hat := hsm.at i
    refine s_app (d := pT (wlRow rows sh letter i)) rfl ((l.up s4).up e5) ?_ (by simp; omega) fun H6 s6 l6 => n _ H6 (dels_step e5 s6) ⟨_, _, _, rfl, ?_⟩
    · unfold wlRow
      dsimp only
      generalize (if i < rows.length then rows.getD i [] else []) = ow at town hown
      have ty' : Ed (tVar 5) [some v, some w, some (.int letter), some (.ref p), some (.int (i : Int)), some (.int (sh.getD i 0)), some own] H5 (.int (sh.getD i 0)) := ed_varI rfl
      generalize sh.getD i 0 = g at hat ty' ⊢
      refine ed_is (ed_tup (ds := ow.map PyData.int ++ ((List.replicate (g - ((ow.map PyData.int).length : Int)).toNat [PyData.int letter]).flatten ++ [])) ?_ (ea_star (ed_var rfl town) (ea_starL (Eln.el (eln_rep (by simp; omega) (by simp) (Eln.el (eln_lst (by simp) (ea_cons (ed_varI rfl) ea_nil))) (ed_sub ty' (ed_len (ed_var rfl town))))) ea_nil))) ?_
      · simp
        omega
      · unfold pT
        rw [List.map_append, List.append_nil, List.length_map, List.map_replicate]
        congr 2
        generalize (g - (ow.length : Int)).toNat = m
        induction m with
        | zero => rfl
        | succ m ih => rw [List.replicate_succ, List.flatten_cons, ih, List.replicate_succ]; rfl
    · rw [List.range_succ, List.map_append, List.map_append]
      exact l6
  · rintro σ' H' s' ⟨x4, x5, x6, rfl, l⟩
    rw [List.length_mapIdx, List.length_map] at l
    exact s_ret (ed_tuple (el_var rfl l)) fun z' H2 e2 tz => q z' H2 ((Same.of_dels e1 hnew s').trans e2) tz⟩
end
end WS
/-! WsM: rows_filled. -/
namespace WS
open PySem PySem.Spec PyProof.Rows L2
theorem atI_last {α : Type} {l : List α} {a : α} : atI (l ++ [a]) (-1) = some a := by
  unfold atI ixN
  rw [if_neg (by decide), if_pos (by simp; omega)]
  have e : (-1 + ((l ++ [a]).length : Int)).toNat = l.length := by
    rw [List.length_append, List.length_singleton]
    omega
  rw [e]
  show (l ++ [a])[l.length]? = some a
  simp
theorem cut_init {α : Type} {l : List α} {a : α} : (((l ++ [a]).drop (HT.sIx (l ++ [a]).length 0 none)).take (HT.sIx (l ++ [a]).length (l ++ [a]).length (some (-1)) - HT.sIx (l ++ [a]).length 0 none)) = l := by
  have h1 : HT.sIx (l ++ [a]).length 0 none = 0 := rfl
  have h2 : HT.sIx (l ++ [a]).length (l ++ [a]).length (some (-1)) = l.length := by
    unfold HT.sIx
    simp
    try omega
  rw [h1, h2]
  simp
section
variable {K : PySem.W.Frag} {σ : L2.St} {H : Hp} {te : TE} {ds : List PyData} {p : Addr} {o : HO}
theorem ei_listG (hp : H p = some o) (h : Eln te σ H ds) : Ei (iList K te) σ H ds Tp (· ∉ [p]) := fun H1 e R q => h H1 e _ fun a H2 ha e2 l => by
  obtain ⟨xs, h1, h2⟩ := l
  refine ⟨a, rfl, ⟨xs, .inl (.inl h1)⟩, q _ H2 e2 (itb_list tp_mono h1 h2.ra (fun z => ?_))⟩
  rw [List.mem_singleton.mp z, e _ _ hp] at ha
  cases ha
end
section
variable {P : Program} {w : World} {K : PySem.W.Frag} {mg : PySem.Str → Option Value} {base : Heap}
abbrev s_rows_filled : Stmt := topS 53
abbrev N_rows_filled : List PySem.Str := ["shape", "amounts", "found", "less", "rows"]
theorem sc_rows_filled : FnScope N_rows_filled ["shape", "amounts"] (defScope s_rows_filled) := ⟨rfl, rfl, rfl, by decide +kernel, rfl, by decide +kernel, by decide +kernel⟩
def S_rf : Nat → Sp
  | 0 => fun _ _ _ _ => False
  | n + 1 => Prn (fun i : List Int × List Int => [pT i.1, pT i.2]) (fun i => Small i.1 ∧ amOk i.2 = true ∧ i.2.length ≤ n ∧ (rowsFilled i.1 i.2).length ≤ 10000) (fun i => (rowsFilled i.1 i.2).map pR)
theorem amOk_init {l : List Int} {a : Int} (h : amOk (l ++ [a]) = true) : amOk l = true ∧ 0 ≤ a ∧ a ≤ 100 := by
  simp only [amOk, Bool.and_eq_true, decide_eq_true_eq, List.all_eq_true] at h ⊢
  obtain ⟨h1, h2⟩ := h
  rw [List.length_append] at h1
  exact ⟨⟨by omega, fun n hn => h2 n (by simp [hn])⟩, h2 a (by simp)⟩
theorem amOk_nn {l : List Int} (h : amOk l = true) : ∀ a ∈ l, 0 ≤ a := by
  simp only [amOk, Bool.and_eq_true, decide_eq_true_eq, List.all_eq_true] at h
  exact fun a ha => (h.2 a ha).1
theorem d_rows_step (B : Bt mg) (D_parts_below : Dv P w K mg base "parts_below" 2 ["shape", "size"] S_parts_below) (D_with_letters : Dv P w K mg base "with_letters" 1 ["rows", "shape", "letter"] S_with_letters) (M : Md K mg "rows_filled" s_rows_filled) (n : Nat)
    (D_rows_filled : Dv P w K mg base "rows_filled" (n + 2) ["shape", "amounts"] (S_rf n)) : Dv P w K mg base "rows_filled" (n + 2 + 1) ["shape", "amounts"] (S_rf (n + 1)) :=
  dv_prn M sc_rows_filled (fun _ _ _ _ _ _ us hl => match us, hl with | [_, _], _ => rfl) (fun _ => rfl) fun f cdv A outer s H E hr => ⟨_,
(pss_cons (ps_if (pt_cmpR (r := rEqD K) (op_eqD hr.units) (pv 1) (pe_tup pa_nil) (nomark _)) (pss_one (ps_ret (pe_lst (pa_cons (pe_tup pa_nil) pa_nil)))) pss_nil)
  (pss_cons (ps_set (i := 2) sc_rows_filled.nd rfl (.inl rfl) (pe_lst pa_nil))
  (pss_cons (ps_for PassesOwn.never rfl (pi_list (pe_cd D_parts_below (hr.mono (by omega)) (by rfl) (pa_cons (pv 0) (pa_cons (pe_ix (r := rIxT K) ix_tup (pv 1) (pe_un un_neg pe_int) (fun _ _ => rfl)) pa_nil)))) (pg_name (i := 3) sc_rows_filled.nd rfl (.inl rfl))
  (pss_one (ps_expr (pe_bm PySem.F.plainAttrs_list PySem.F.slot_list_extend PySem.F.type_list_extend mt_extend (pv 2) (pa_cons (pe_lc (own := [("rows", 4)]) rfl sc_rows_filled.nd (pi_list (pe_cd D_rows_filled (hr.mono (by omega)) (by rfl) (pa_cons (pv 3) (pa_cons (pe_slice (r := rSlA K) sl_tupA (pv 1) po_none (po_some (pe_un un_neg pe_int))) pa_nil)))) (blkOk_by (own := [("rows", 4)]) (N := N_rows_filled) (sc := defScope s_rows_filled) (by decide +kernel)) (fun _ _ _ _ _ => (pg_name (i := 4) sc_rows_filled.nd rfl (Or.inl rfl))) (fun _ _ _ _ _ => pts_nil) (fun _ _ _ _ _ => (pe_cd D_with_letters (hr.mono (by omega)) (by rfl) (pa_cons (pv 4) (pa_cons (pv 0) (pa_cons (pe_callB (r := rLenQ K) call_len_seq (by rfl) B.b_len (by decide +kernel) (pa_cons (pv 1) pa_nil)) pa_nil)))))) pa_nil)))))
  (pss_one (ps_ret (pv 2)))))), fun ⟨sh, am⟩ vs t ⟨hsm, ham, hn, hz⟩ => by
  obtain ⟨v, w, rfl, h1, h2⟩ := tpa2 t
  simp only at h1 h2 hsm ham hn hz
  intro Q q
  show tSeq _ _ _ _ _
  rcases List.eq_nil_or_concat am with rfl | ⟨ini, a, rfl⟩
  · refine s_if (D := { nx := _, rt := Q }) (b := true) (et_is (et_test (ed_eqT (b := []) (ed_var rfl h2) (ed_tup (ds := []) (by show (0 : Nat) ≤ 100000; decide) ea_nil))) (by simp)) (fun _ H1 e1 => ?_) fun z => nomatch z
    refine s_retN (ds := [pR []]) (eln_lst (by show (1 : Nat) ≤ 100000; decide) (ea_cons (ed_tup (ds := []) (by show (0 : Nat) ≤ 100000; decide) ea_nil) ea_nil)) Q fun p' H6 hp' e6 l6 => q p' H6 (e1.free hp') (e1.trans e6) l6
  · rw [List.concat_eq_append] at h2 ham hn hz q
    refine q_ifF (et_is (et_test (ed_eqT (b := []) (ed_var rfl h2) (ed_tup (ds := []) (by show (0 : Nat) ≤ 100000; decide) ea_nil))) (decide_eq_false (by simp))) fun H1 e1 => ?_
    obtain ⟨hini, ha0, ha1⟩ := amOk_init ham
    refine q_setN (eln_lst (ds := []) (by decide) ea_nil) fun p H2 hp e2 l2 => ?_
    obtain ⟨xs, l2', _⟩ := id l2
    have hnew : ∀ a ∈ [p], H1 a = none := fun a ha => by rw [List.mem_singleton.mp ha]; exact hp
    have e12 := e1.trans e2
    obtain ⟨m, rfl⟩ : ∃ m, n = m + 1 := ⟨n - 1, by rw [List.length_append, List.length_singleton] at hn; omega⟩
    have erf : rowsFilled sh (ini ++ [a]) = (partsBelow sh a).flatMap fun less => (rfRev ini.reverse less).map fun rows => withLetters rows sh ((ini.length : Int) + 1) := by
      unfold rowsFilled
      rw [List.reverse_append]
      simp only [List.reverse_cons, List.reverse_nil, List.nil_append, List.singleton_append, rfRev, List.length_reverse]
    rw [erf] at hz q
    generalize hF : (fun less => (rfRev ini.reverse less).map fun rows => withLetters rows sh ((ini.length : Int) + 1)) = F at hz q
    refine q_forM [p] (fun a ha => by rw [List.mem_singleton.mp ha]; exact ⟨_, l2', rfl⟩) (its := partsBelow sh a) (Ei.of (g := pT) (ei_listG l2' (eln_call (sh, a) ⟨hsm, ha0, ha1⟩ (ea_cons (ed_var rfl (h1.up e12)) (ea_cons (ed_ixT (ed_var rfl (h2.up e12)) (ed_neg ed_int) (by rw [List.map_append]; exact atI_last)) ea_nil))))) (fun i σ' H' => ∃ x3, σ' = [some v, some w, some (.ref p), x3, none] ∧ Ls H' p (((((partsBelow sh a).take i).flatMap F)).map pR)) (fun H' e' => ⟨none, rfl, l2.up e'⟩) ?_ ?_
    · rintro i less hi x σ1 H3 H4 s3 ⟨x3, rfl, l⟩ s4 tx Nx nn
      have b : Same H H4 := (e1.trans (Same.of_dels e2 hnew s3)).trans s4
      have hless : Small less := pb_small hsm ha0 (List.mem_of_getElem? hi)
      have hlF : (F less).length ≤ 10000 := Nat.le_trans (fm_part (List.mem_of_getElem? hi)) hz
      have hlR : (rfRev ini.reverse less).length ≤ 10000 := by rw [← hF] at hlF; simpa using hlF
      have htk : ((((partsBelow sh a).take i).flatMap F) ++ F less).length ≤ 10000 := by
        have e : ((partsBelow sh a).take (i + 1)).flatMap F = (((partsBelow sh a).take i).flatMap F) ++ F less := by rw [take_succ' hi, List.flatMap_append]; simp
        rw [← e]
        exact Nat.le_trans fm_take hz
      refine s_ext (es := (F less).map pR) rfl (l.up s4) (eln_is (eln_map (its := rfRev ini.reverse less) (fun rows => pR (withLetters rows sh ((ini.length : Int) + 1))) (by omega) (Ei.of (g := pR) (ei_list (Eln.el (eln_call (args := fun i : List Int × List Int => [pT i.1, pT i.2]) (less, ini) ⟨hless, hini, by rw [List.length_append, List.length_singleton] at hn; simp only; omega, hlR⟩ (ea_cons (ed_var rfl tx) (ea_cons (ed_is (ed_sl (ed_var rfl (h2.up b)) eo_none (eo_some (ed_neg ed_int))) (by rw [List.map_append, List.map_singleton]; exact congrArg PyData.tuple cut_init)) ea_nil)))))) fun rows hm x' H6 e6 r => hb_name rfl (em_call (rows, sh, ((ini.length : Int) + 1)) ⟨rf_r6 (fun y hy => amOk_nn hini y (List.mem_reverse.mp hy)) hless rows hm, hsm⟩ (ea_cons (ed_var rfl r) (ea_cons (ed_var rfl (h1.up (b.trans e6))) (ea_cons (ed_is (ed_len (ed_var rfl (h2.up (b.trans e6)))) (by simp)) ea_nil))))) (by rw [← hF, List.map_map]; rfl)) (by rw [List.length_append] at htk; simp only [List.length_map]; omega) fun H6 s6 l6 => nn _ H6 s6 ⟨_, rfl, ?_⟩
      rw [take_succ' hi, List.flatMap_append, List.map_append]
      simpa using l6
    · rintro σ' H' s' ⟨x3, rfl, l⟩
      rw [List.take_length] at l
      exact ⟨_, rfl, q p H' (e1.free hp) (e1.trans (Same.of_dels e2 hnew s')) l⟩⟩
theorem dv_false {x : PySem.Str} {st : Stmt} {ps : List PySem.Str} {k : Nat} (M : Md K mg x st) (hb : BindsAt x st ps) : Dv P w K mg base x k ps (fun _ _ _ _ => False) := by
  obtain ⟨f, fd, hm, F⟩ := M
  obtain ⟨oc, od, _, _, _, _, _, _, osl, _, lk, _⟩ := id F.ex
  exact ⟨f, fd, hm, F.kp, F.binds hb, ⟨oc, od, osl, lk⟩, ⟨fun _ _ _ _ h => h.elim, fun _ _ _ _ _ _ _ _ _ _ _ _ _ h => h.elim⟩⟩
theorem d_rows_filled (B : Bt mg) (D_parts_below : Dv P w K mg base "parts_below" 2 ["shape", "size"] S_parts_below) (D_with_letters : Dv P w K mg base "with_letters" 1 ["rows", "shape", "letter"] S_with_letters) (M : Md K mg "rows_filled" s_rows_filled) :
    ∀ n : Nat, Dv P w K mg base "rows_filled" (n + 2) ["shape", "amounts"] (S_rf n)
  | 0 => dv_false M (fun _ _ _ _ _ _ us hl => match us, hl with | [_, _], _ => rfl)
  | n + 1 => d_rows_step B D_parts_below D_with_letters M n (d_rows_filled B D_parts_below D_with_letters M n)
end
end WS
/-! WsN: Table; tables_with. -/
namespace WS
open PySem PySem.Spec PyProof.Rows L2
/-! ### an instance with its rows -/
def IsTb (C : Addr) (rows : List (List Int)) : V → Hp → Prop := fun v H => ∃ a dx r, v = .ref a ∧ H a = some (.ins C dx [("filled", r)]) ∧ Tp H r (pR rows)
theorem tb_mono {C : Addr} : ∀ H H' v k, Kp H H' → IsTb C k v H → IsTb C k v H' := fun _ _ _ _ k ⟨a, dx, r, h1, h2, h3⟩ => ⟨a, dx, r, h1, k _ _ h2 rfl, h3.kp k⟩
/-- a tuple of instances -/
def IsTabs (C : Addr) (ts : List (List (List Int))) : V → Hp → Prop := fun v H => ∃ a xs, v = .ref a ∧ H a = some (.tup xs) ∧ RA (fun x t => IsTb C t x H) xs ts
theorem tabs_mono {C : Addr} {ts : List (List (List Int))} {H H' : Hp} {v : V} (k : Kp H H') (h : IsTabs C ts v H) : IsTabs C ts v H' := by
  obtain ⟨a, xs, h1, h2, h3⟩ := h
  exact ⟨a, xs, h1, k _ _ h2 rfl, h3.imp fun v t h => tb_mono _ _ _ _ k h⟩
theorem up_Tb {C : Addr} {t : List (List Int)} : Up (IsTb C t) := fun _ _ _ e h => tb_mono _ _ _ _ (.of e) h
theorem up_Tabs {C : Addr} {t : List (List (List Int))} : Up (IsTabs C t) := fun _ _ _ e h => tabs_mono (.of e) h
def S_init (K : PySem.W.Frag) (C : Addr) : Sp := fun vs H Q _ => ∃ a dx r rows, vs = [.ref a, r] ∧ H a = some (.ins C dx []) ∧ Tp H r (pR rows) ∧ rowsOk rows = true ∧ ∀ H', Same (dels H [a]) H' → H' a = some (.ins C dx [("filled", r)]) → Q .non H'
def S_rows (C : Addr) : Sp := fun vs H Q _ => ∃ v rows, vs = [v] ∧ IsTb C rows v H ∧ ∀ r H', Same H H' → Tp H' r (pR rows) → Q r H'
def S_shape (C : Addr) : Sp := fun vs H Q _ => ∃ v rows, vs = [v] ∧ IsTb C rows v H ∧ rows.length ≤ 1000 ∧ ∀ r H', Same H H' → Tp H' r (pT (rows.map fun r => (r.length : Int))) → Q r H'
abbrev s___init__ : Stmt := inClass (topS 45) 0
abbrev N___init__ : List PySem.Str := ["self", "rows"]
theorem sc___init__ : FnScope N___init__ ["self", "rows"] (defScope s___init__) := ⟨rfl, rfl, rfl, by decide +kernel, rfl, by decide +kernel, by decide +kernel⟩
abbrev s_rows : Stmt := inClass (topS 45) 2
abbrev N_rows : List PySem.Str := ["self"]
theorem sc_rows : FnScope N_rows ["self"] (defScope s_rows) := ⟨rfl, rfl, rfl, by decide +kernel, rfl, by decide +kernel, by decide +kernel⟩
abbrev s_shape : Stmt := inClass (topS 45) 3
abbrev N_shape : List PySem.Str := ["self"]
theorem sc_shape : FnScope N_shape ["self"] (defScope s_shape) := ⟨rfl, rfl, rfl, by decide +kernel, rfl, by decide +kernel, by decide +kernel⟩
/-- the class as it stands behind the top -/
structure Tb (K : PySem.W.Frag) (mg : PySem.Str → Option Value) (C : Addr) : Prop where
  mgC : mg "Table" = some (.ref C)
  cl : Cls K C
  nf : NoAttr K C "filled"
  made : ∃ f fd, Mk K C f ∧ Fun K "__init__" "Table.__init__" s___init__ f fd
  rows : ∃ p g fd, PropOf K C "rows" p g ∧ Fun K "rows" "Table.rows" s_rows g fd
  shape : ∃ p g fd, PropOf K C "shape" p g ∧ Fun K "shape" "Table.shape" s_shape g fd
  ha : PySem.W.findIn K (.ref C) "__class__" = some (some (.builtin "object.__class__"))
  hn : PySem.W.specialIn K (.builtin "object.__class__") "__get__" = some (some (.builtin "getset_descriptor.__get__"))
  htk : PySem.W.takesIn K (.builtin "object.__class__") = some true
  hm : PySem.W.mroIn K C (.type "object") = some true
section
variable {P : Program} {w : World} {K : PySem.W.Frag} {mg : PySem.Str → Option Value} {base : Heap} {C : Addr}
def Dm (P : Program) (w : World) (K : PySem.W.Frag) (mg : PySem.Str → Option Value) (base : Heap) (C : Addr) : Prop := ∃ f fd, Mk K C f ∧ Binds K fd ["self", "rows"] [] ∧ FnOk P w K mg base CX0 7 f fd ["self", "rows"] (S_init K C)
def Dp (P : Program) (w : World) (K : PySem.W.Frag) (mg : PySem.Str → Option Value) (base : Heap) (C : Addr) (x : PySem.Str) (k : Nat) (sp : Sp) : Prop := ∃ p g fd, PropOf K C x p g ∧ Binds K fd ["self"] [] ∧ FnOk P w K mg base CX0 k g fd ["self"] sp
theorem d_init (B : Bt mg) (T : Tb K mg C) (D_are_rows : Dv P w K mg base "are_rows" 6 ["value"] S_are_rows) : Dm P w K mg base C := by
  obtain ⟨f, fd, M, F⟩ := T.made
  refine ⟨f, fd, M, F.binds (fun _ _ _ _ _ _ us hl => match us, hl with | [_, _], _ => rfl), F.ok sc___init__ (fun vs H Q E ⟨_, _, _, _, e, _⟩ => by rw [e]; rfl) fun cdv A outer s H vs Q E hr hsp => ⟨_,
(pss_cons (ps_if (pt_not (pt_val (pe_cd D_are_rows (hr.mono (by decide)) (by rfl) (pa_cons (pv 1) pa_nil)))) (pss_one ps_never) pss_nil)
  (pss_one (ps_fld (pv 0) (pv 1) rfl))), ?_⟩⟩
  obtain ⟨a, dx, r, rows, rfl, h1, h2, h3, q⟩ := hsp
  refine q_ifF (et_not (b := true) (et_B (em_call rows h3 (ea_cons (ed_var rfl h2) ea_nil)))) fun H1 e1 => ?_
  refine ⟨r, rfl, .ref a, rfl, a, C, dx, [], rfl, e1 _ _ h1, T.cl, T.nf, by simp, ?_⟩
  exact q _ (Same.dels_upd (Same.to_dels e1) (by simp)) upd_same
theorem d_rows (B : Bt mg) (T : Tb K mg C) : Dp P w K mg base C "rows" 1 (S_rows C) := by
  obtain ⟨p, g, fd, M, F⟩ := T.rows
  refine ⟨p, g, fd, M, F.binds (fun _ _ _ _ _ _ us hl => match us, hl with | [_], _ => rfl), F.ok sc_rows (fun vs H Q E ⟨_, _, e, _⟩ => by rw [e]; rfl) fun cdv A outer s H vs Q E hr hsp => ⟨_,
(pss_one (ps_ret (pe_fld (pv 0) rfl))), ?_⟩⟩
  obtain ⟨v, rows, rfl, ⟨a, dx, r, rfl, h1, h2⟩, q⟩ := hsp
  exact ⟨.ref a, rfl, a, C, dx, _, r, rfl, h1, T.cl, T.nf, rfl, q r H (.refl _) h2⟩
theorem d_shape (B : Bt mg) (T : Tb K mg C) (D_shape_of : Dv P w K mg base "shape_of" 1 ["rows"] S_shape_of) : Dp P w K mg base C "shape" 2 (S_shape C) := by
  obtain ⟨p, g, fd, M, F⟩ := T.shape
  refine ⟨p, g, fd, M, F.binds (fun _ _ _ _ _ _ us hl => match us, hl with | [_], _ => rfl), F.ok sc_shape (fun vs H Q E ⟨_, _, e, _⟩ => by rw [e]; rfl) fun cdv A outer s H vs Q E hr hsp => ⟨_,
(pss_one (ps_ret (pe_cd D_shape_of (hr.mono (by decide)) (by rfl) (pa_cons (pe_fld (pv 0) rfl) pa_nil)))), ?_⟩⟩
  obtain ⟨v, rows, rfl, ⟨a, dx, r, rfl, h1, h2⟩, hl, q⟩ := hsp
  have hf : Ed (tFld K (tVar 0) "filled") (L2.start N_shape [.ref a]) H (pR rows) := fun H1 e Q q => ⟨.ref a, rfl, a, C, dx, _, r, rfl, e _ _ h1, T.cl, T.nf, rfl, q r H1 (.refl _) (h2.up e)⟩
  exact s_ret (em_call rows hl (ea_cons hf ea_nil)) fun v' H' e p => q v' H' e p
/-- C(e) -/
theorem pe_mk {X : Cx} {K : PySem.W.Frag} {e : Expr} {t : TA} {p pos : Pos} (hK : X.K = K) (D : Dm X.prog X.w X.K X.mg X.base C) (hr : Room 8 X.A) (hg : Gl X "Table") (hm : X.mg "Table" = some (.ref C)) (ha : PA X [e] t)
    (he : starEach [e] X.env = (false, eval e X.env) :: starEach [] X.env := by rfl) (hpl : (backTo pos (starEach [] X.env)).any (·.1) = false := by rfl) : PE X (.Call (.Name "Table" p) [e] [] pos) (tMake C (S_init K C) [] E0 t) := by
  subst hK
  obtain ⟨f, fd, M, hb, F⟩ := D
  exact pe_make M F hr hg hm hb .nil pass0 ha (by decide) he hpl
theorem em_make {σ : L2.St} {H : Hp} {te : TE} {rows : List (List Int)} {E : XK} (h : Ed te σ H (pR rows)) (hok : rowsOk rows = true) : Em (tMake C (S_init K C) [] E (tCons te tNil)) σ H (IsTb C rows) := fun H1 e Q q => h H1 e _ fun v H2 e2 t x dx hx hdx hne => by
  have s1 : Same H2 (upd (upd H2 dx (.own x)) x (.ins C dx [])) := (sm_new hdx).trans (sm_new (by rw [upd_ne (Ne.symm hne)]; exact hx))
  refine ⟨x, dx, v, rows, rfl, upd_same, Tp.up t s1, hok, fun H' s' h' => ⟨rfl, ?_⟩⟩
  have s2 : Same H2 H' := Same.of_dels s1 (fun a ha => by rw [List.mem_singleton.mp ha]; exact hx) s'
  exact q _ H' (e2.trans s2) ⟨x, dx, v, rfl, h', Tp.up t s2⟩
/-- e.f -/
theorem pe_pr {X : Cx} {e : Expr} {f : PySem.Str} {pos : Pos} {ta : TE} {k : Nat} {sp : Sp} (D : Dp X.prog X.w X.K X.mg X.base C f k sp) (he : PE X e ta) (c : Cls X.K C) (hr : Room (k + 1) X.A) (hab : attributeBase e f X.env (eval e X.env) = eval e X.env := by rfl) : PE X (.Attribute e f pos) (tProp C sp [] E0 ta) := by
  obtain ⟨p, g, fd, M, hb, F⟩ := D
  exact pe_prop he c M F hr hb .nil pass0 hab
theorem ed_rows {σ : L2.St} {H : Hp} {te : TE} {rows : List (List Int)} {E : XK} (h : Em te σ H (IsTb C rows)) : Ed (tProp C (S_rows C) [] E te) σ H (pR rows) := fun H1 e Q q => h H1 e _ fun v H2 e2 t => by
  obtain ⟨a, dx, r, rfl, h1, h2⟩ := id t
  exact ⟨a, dx, _, rfl, h1, _, rows, rfl, t, fun r' H' s p => q r' H' (e2.trans s) p⟩
theorem ed_shape {σ : L2.St} {H : Hp} {te : TE} {rows : List (List Int)} {E : XK} (h : Em te σ H (IsTb C rows)) (hl : rows.length ≤ 1000) : Ed (tProp C (S_shape C) [] E te) σ H (pT (rows.map fun r => (r.length : Int))) := fun H1 e Q q => h H1 e _ fun v H2 e2 t => by
  obtain ⟨a, dx, r, rfl, h1, h2⟩ := id t
  exact ⟨a, dx, _, rfl, h1, _, rows, rfl, t, hl, fun r' H' s p => q r' H' (e2.trans s) p⟩
theorem ed_isiC (T : Tb K mg C) {σ : L2.St} {H : Hp} {te : TE} {rows : List (List Int)} (h : Em te σ H (IsTb C rows)) : Ed (tCB (rIsi K) (tCons te (tCons (tC (.ref C)) tNil))) σ H (.bool true) := fun H1 e Q q => h H1 e _ fun v H2 e2 t => by
  obtain ⟨a, dx, r, rfl, h1, h2⟩ := id t
  exact ⟨_, _, _, _, true, rfl, .own C, .base (.ins h1 T.cl T.ha T.hn T.htk T.hm), by unfold PySem.W.kitOne; rw [if_pos (by simp)], q _ H2 e2 (.bl _)⟩
theorem ed_isiTabs {σ : L2.St} {H : Hp} {te : TE} {ts : List (List (List Int))} (h : Em te σ H (IsTabs C ts)) : Ed (tCB (rIsi K) (tCons te (tCons (tC (.ty "tuple")) tNil))) σ H (.bool true) := fun H1 e Q q => h H1 e _ fun v H2 e2 p => by
  obtain ⟨a, xs, rfl, h1, h2⟩ := p
  exact ⟨_, _, _, _, true, rfl, .ty _, .base (.tup h1), kit_ty (by decide +kernel), q _ H2 e2 (.bl _)⟩
theorem ei_tabs {σ : L2.St} {H : Hp} {te : TE} {ts : List (List (List Int))} {ok : Addr → Prop} (h : Em te σ H (IsTabs C ts)) : Ei (iTup K te) σ H ts (fun H v t => IsTb C t v H) ok := fun H1 e R q => h H1 e _ fun v H2 e2 p => by
  obtain ⟨a, xs, rfl, h1, h2⟩ := p
  exact ⟨a, rfl, ⟨xs, .inl (.inl h1)⟩, q _ H2 e2 (itb_tup (rel := fun H v t => IsTb C t v H) (fun H H' v k kp h => tb_mono _ _ _ _ kp h) h1 h2)⟩

/-- tuple(..) of a new list under a relation -/
theorem em_tupleR {κ : Type} {rel : Hp → V → κ → Prop} {ks : List κ} (mono : ∀ H H' v k, Kp H H' → rel H v k → rel H' v k) {σ : L2.St} {H : Hp} {te : TE} (h : ∀ H1, Same H H1 → ∀ Q : VK, (∀ p H2, H1 p = none → Same H1 H2 → (∃ xs, H2 p = some (.lst xs) ∧ RA (rel H2) xs ks) → Q (.ref p) H2) → te σ H1 Q) :
    Em (tCB (rTupQ K) (tCons te tNil)) σ H (fun v H => ∃ a xs, v = .ref a ∧ H a = some (.tup xs) ∧ RA (rel H) xs ks) := fun H1 e Q q =>
  h H1 e _ fun p H2 hp e2 ⟨xs, h1, h2⟩ => ⟨p, xs, rfl, .inl ⟨.inl (.inl h1), fun l hl => q _ _ (e2.trans (sm_new hl)) ⟨l, xs, rfl, upd_same, h2.imp fun v k h => mono _ _ _ _ (.of (sm_new hl)) h⟩⟩⟩

/-! ### sorted -/
theorem el_sortD {σ : L2.St} {H : Hp} {te : TE} {ds : List PyData} (h : El te σ H ds) (hs : Srtb ds) : El (tCB (rSortD K) (tCons te tNil)) σ H (srt ds) := fun H1 e Q q => h H1 e _ fun v H2 e2 p => by
  obtain ⟨a, rfl, xs, h1, h2⟩ := p
  exact ⟨a, xs, ds, rfl, .inl (.inl h1), h2, hs, fun ys p' hn t => q _ _ (e2.trans (sm_new hn)) ⟨p', rfl, _, upd_same, t.up (sm_new hn)⟩⟩
theorem perm_map_inv {α β : Type} {f : α → β} : ∀ {l m : List β}, l.Perm m → ∀ {ts : List α}, m = ts.map f → ∃ ts' : List α, l = ts'.map f ∧ ts'.Perm ts := by
  intro l m p
  induction p with
  | nil =>
    intro ts e
    have : ts = [] := by simpa using e.symm
    subst this
    exact ⟨[], rfl, .nil⟩
  | cons x _ ih =>
    intro ts e
    cases ts with
    | nil => simp at e
    | cons t r =>
      simp only [List.map_cons, List.cons.injEq] at e
      obtain ⟨r', h1, h2⟩ := ih e.2
      exact ⟨t :: r', by rw [List.map_cons, ← h1, e.1], h2.cons t⟩
  | swap x y l =>
    intro ts e
    match ts, e with
    | a :: b :: r, e =>
      simp only [List.map_cons, List.cons.injEq] at e
      exact ⟨b :: a :: r, by rw [List.map_cons, List.map_cons, ← e.1, ← e.2.1, ← e.2.2], .swap _ _ _⟩
  | trans _ _ ih1 ih2 =>
    intro ts e
    obtain ⟨t1, h1, p1⟩ := ih2 e
    obtain ⟨t2, h2, p2⟩ := ih1 h1
    exact ⟨t2, h2, p2.trans p1⟩
theorem srt_map {α : Type} (f : α → PyData) (ts : List α) : ∃ ts' : List α, srt (ts.map f) = ts'.map f ∧ ts'.Perm ts := perm_map_inv (List.mergeSort_perm _ _) rfl
theorem alike_ints : ∀ a b : List Int, PySem.W.alikeAll (a.map .int) (b.map .int) = true
  | [], b => by cases b <;> simp [PySem.W.alikeAll]
  | x :: a, [] => by simp [PySem.W.alikeAll]
  | x :: a, y :: b => by simp [PySem.W.alikeAll, PySem.W.alike, alike_ints a b]
theorem alike_T (a b : List Int) : PySem.W.alike (pT a) (pT b) = true := by
  simp only [pT, PySem.W.alike]
  exact alike_ints a b
theorem alike_Ts : ∀ a b : List (List Int), PySem.W.alikeAll (a.map pT) (b.map pT) = true
  | [], b => by cases b <;> simp [PySem.W.alikeAll]
  | x :: a, [] => by simp [PySem.W.alikeAll]
  | x :: a, y :: b => by simp [PySem.W.alikeAll, alike_T, alike_Ts a b]
theorem alike_R (a b : List (List Int)) : PySem.W.alike (pR a) (pR b) = true := by
  simp only [pR, PySem.W.alike]
  exact alike_Ts a b
theorem srtb_R {ts : List (List (List Int))} (h : ts.length < 2 ∨ ∀ t ∈ ts, t ≠ []) : Srtb (ts.map pR) := by
  rcases h with h | h
  · exact .inl (by simpa using h)
  · refine .inr ⟨fun d hd d' hd' => ?_, .inl fun d hd => ?_, fun d hd => ?_⟩
    · obtain ⟨a, _, rfl⟩ := List.mem_map.mp hd
      obtain ⟨b, _, rfl⟩ := List.mem_map.mp hd'
      exact alike_R a b
    · obtain ⟨a, ha, rfl⟩ := List.mem_map.mp hd
      cases a with
      | nil => exact absurd rfl (h _ ha)
      | cons x r => exact ⟨pT x, r.map pT, rfl⟩
    · obtain ⟨a, ha, rfl⟩ := List.mem_map.mp hd
      exact Nat.le_trans (depth_R a) (by decide)
theorem srtb_T {ts : List (List Int)} (h : ts.length < 2 ∨ ∀ t ∈ ts, t ≠ []) : Srtb (ts.map pT) := by
  rcases h with h | h
  · exact .inl (by simpa using h)
  · refine .inr ⟨fun d hd d' hd' => ?_, .inl fun d hd => ?_, fun d hd => ?_⟩
    · obtain ⟨a, _, rfl⟩ := List.mem_map.mp hd
      obtain ⟨b, _, rfl⟩ := List.mem_map.mp hd'
      exact alike_T a b
    · obtain ⟨a, ha, rfl⟩ := List.mem_map.mp hd
      cases a with
      | nil => exact absurd rfl (h _ ha)
      | cons x r => exact ⟨.int x, r.map .int, rfl⟩
    · obtain ⟨a, ha, rfl⟩ := List.mem_map.mp hd
      exact Nat.le_trans (depth_T a) (by decide)
abbrev s_tables_with : Stmt := topS 54
abbrev N_tables_with : List PySem.Str := ["shape", "amounts", "rows"]
theorem sc_tables_with : FnScope N_tables_with ["shape", "amounts"] (defScope s_tables_with) := ⟨rfl, rfl, rfl, by decide +kernel, rfl, by decide +kernel, by decide +kernel⟩
/-- the tables of that shape and amounts, unsorted -/
def tabs (sh am : List Int) : List (List (List Int)) := if am.sum = sh.sum then rowsFilled sh am else []
def tabsOk (sh am : List Int) : Bool :=
  if am.sum = sh.sum then
    (match tablesCounted sh am with | some n => decide (n ≤ 2000) | none => false) &&
      let rs := rowsFilled sh am; rs.all rowsOk && decide (rs.length ≤ 1000) && (decide (rs.length < 2) || rs.all fun t => !t.isEmpty)
  else true
abbrev S_tables_with (C : Addr) : Sp := Pr (fun i : List Int × List Int => [pT i.1, pT i.2]) (fun i => shOk i.1 = true ∧ amOk i.2 = true ∧ i.2.length ≤ 6 ∧ tabsOk i.1 i.2 = true) (fun i v H => ∃ ts, srt ((tabs i.1 i.2).map pR) = ts.map pR ∧ IsTabs C ts v H)
theorem d_tables_with (B : Bt mg) (T : Tb K mg C) (D_check_shape : Dv P w K mg base "check_shape" 3 ["value", "most"] S_check_shape) (D_check_amounts : Dv P w K mg base "check_amounts" 2 ["value"] S_check_amounts) (D_tables_counted : Dv P w K mg base "tables_counted" 3 ["shape", "amounts"] S_tables_counted)
    (D_rows_filled : Dv P w K mg base "rows_filled" 9 ["shape", "amounts"] (S_rf 7)) (D_Table : Dm P w K mg base C) (M : Md K mg "tables_with" s_tables_with) : Dv P w K mg base "tables_with" 10 ["shape", "amounts"] (S_tables_with C) :=
  dv_pr M sc_tables_with (fun _ _ _ _ _ _ us hl => match us, hl with | [_, _], _ => rfl) (fun _ => rfl) fun f cdv A outer s H E hr => ⟨_,
(pss_cons (ps_expr (pe_cd D_check_shape (hr.mono (by decide)) (by rfl) (pa_cons (pv 0) (pa_cons (pe_glob (v := .int 12) rfl B.k_MOST_LONG.choose_spec ⟨_, rfl⟩) pa_nil))))
  (pss_cons (ps_expr (pe_cd D_check_amounts (hr.mono (by decide)) (by rfl) (pa_cons (pv 1) pa_nil)))
  (pss_cons (ps_if (pt_cmpR op_ne (pe_callB (r := rSumT K) (cr_sumT rfl) (by rfl) B.b_sum (by decide +kernel) (pa_cons (pv 1) pa_nil)) (pe_callB (r := rSumT K) (cr_sumT rfl) (by rfl) B.b_sum (by decide +kernel) (pa_cons (pv 0) pa_nil)) (nomark _)) (pss_one (ps_ret (pe_tup pa_nil))) pss_nil)
  (pss_cons (ps_if (pt_cmpR op_gt (pe_cd D_tables_counted (hr.mono (by decide)) (by rfl) (pa_cons (pv 0) (pa_cons (pv 1) pa_nil))) (pe_glob (v := .int 2000) rfl B.k_MOST_LISTED.choose_spec ⟨_, rfl⟩) (nomark _)) (pss_one ps_never) pss_nil)
  (pss_one (ps_ret (pe_callTy (r := rTupQ K) call_tuple_of (by rfl) B.b_tuple (by decide +kernel) (pa_cons (pe_lc (own := [("rows", 2)]) rfl sc_tables_with.nd (pi_list (pe_callB (r := rSortD K) (cr_sortD hr.units) (by rfl) B.b_sorted (by decide +kernel) (pa_cons (pe_cd D_rows_filled (hr.mono (by decide)) (by rfl) (pa_cons (pv 0) (pa_cons (pv 1) pa_nil))) pa_nil))) (blkOk_by (own := [("rows", 2)]) (N := N_tables_with) (sc := defScope s_tables_with) (by decide +kernel)) (fun _ _ _ _ _ => (pg_name (i := 2) sc_tables_with.nd rfl (Or.inl rfl))) (fun _ _ _ _ _ => pts_nil) (fun _ _ _ _ _ => (pe_mk (K := K) rfl D_Table (hr.mono (by decide)) (by rfl) T.mgC (pa_cons (pv 2) pa_nil)))) pa_nil)))))))), fun ⟨sh, am⟩ vs t ⟨hsh, ham, hl6, hok⟩ => by
  obtain ⟨v, w, rfl, h1, h2⟩ := tpa2 t
  simp only at h1 h2 hsh ham hl6 hok
  intro Q q
  refine q_drop (em_call (sh, (12 : Int)) ⟨hsh, by show (6 : Int) ≤ 12; decide, by show (12 : Int) ≤ 1000; decide⟩ (ea_cons (ed_var rfl h1) (ea_cons ed_int ea_nil))) fun _ H1 e1 _ => ?_
  refine q_drop (em_call am ham (ea_cons (ed_var rfl (h2.up e1)) ea_nil)) fun _ H2 e2 _ => ?_
  have e := e1.trans e2
  have tst : Et (tTest (tOp rNe (tCB (rSumT K) (tCons (tVar 1) tNil)) (tCB (rSumT K) (tCons (tVar 0) tNil)))) (L2.start N_tables_with [v, w]) H2 (!decide (am.sum = sh.sum)) := et_test (ed_neI (ed_sumT (ed_var rfl (h2.up e))) (ed_sumT (ed_var rfl (h1.up e))))
  by_cases hs : am.sum = sh.sum
  · unfold tabsOk at hok
    rw [if_pos hs] at hok
    refine q_ifF (et_is tst (by simp [hs])) fun H3 e3 => ?_
    have e13 := e.trans e3
    cases htc : tablesCounted sh am with
    | none => rw [htc] at hok; simp at hok
    | some n =>
      rw [htc] at hok
      simp only [Bool.and_eq_true, decide_eq_true_eq, List.all_eq_true, Bool.or_eq_true, Bool.not_eq_true', List.isEmpty_eq_false_iff] at hok
      obtain ⟨k1, ⟨k2, k3⟩, k4⟩ := hok
      refine q_ifF (et_is (et_test (ed_gt (em_call (sh, am, n) ⟨shOk_small hsh, ham, htc⟩ (ea_cons (ed_var rfl (h1.up e13)) (ea_cons (ed_var rfl (h2.up e13)) ea_nil))) ed_int)) (decide_eq_false (p := (2000 : Int) < n) (by omega))) fun H4 e4 => ?_
      have e14 := e13.trans e4
      obtain ⟨ts, hts, hpm⟩ := srt_map pR (rowsFilled sh am)
      have hlen : ts.length ≤ 1000 := by rw [hpm.length_eq]; exact k3
      have inner : El (tCB (rSortD K) (tCons (tCall (S_rf 7) [] E0 (tCons (tVar 0) (tCons (tVar 1) tNil))) tNil)) (L2.start N_tables_with [v, w]) H4 (ts.map pR) := by
        rw [← hts]
        exact el_sortD (Eln.el (eln_call (args := fun i : List Int × List Int => [pT i.1, pT i.2]) (sh, am) ⟨shOk_small hsh, ham, hl6, Nat.le_trans k3 (by decide)⟩ (ea_cons (ed_var rfl (h1.up e14)) (ea_cons (ed_var rfl (h2.up e14)) ea_nil)))) (srtb_R k4)
      have lc := fun hb => lc_gen (its := ts) (rel := fun H v t => Tp H v (pR t)) (f := some) (rel' := fun H v t => IsTb C t v H) (σ := L2.start N_tables_with [v, w]) (H := H4) (g := gName 2) (tt := tYes) (te := tMake C (S_init K C) [] E0 (tCons (tVar 2) tNil)) (vs := [2]) (fun H H' v k kp h => tb_mono _ _ _ _ kp h) (by simp; omega) (Ei.of (g := pR) (ei_list (K := K) inner)) hb
      refine s_ret (em_tupleR (rel := fun H v t => IsTb C t v H) (ks := ts.filterMap some) (fun H H' v k kp h => tb_mono _ _ _ _ kp h) (lc ?_)) fun z H5 e5 p => q z H5 (e14.trans e5) ⟨ts, by unfold tabs; rw [if_pos hs]; exact hts, ?_⟩
      · intro t ht x H6 e6 r
        exact hb_name rfl (.inr ⟨t, rfl, et_yes, em_make (ed_var rfl r) (k2 t (hpm.mem_iff.mp ht))⟩)
      · rw [List.filterMap_some] at p
        exact p
  · refine s_ifT (D := { nx := _, rt := Q }) (et_is tst (by simp [hs])) fun H3 e3 => ?_
    refine s_ret (P := IsTabs C []) (fun H4 e4 Q q => ⟨Nat.zero_le _, fun p hp => q _ _ (sm_new hp) ⟨p, [], rfl, upd_same, .nil⟩⟩) fun z H4 e4 p => q z H4 ((e.trans e3).trans e4) ⟨[], by unfold tabs; rw [if_neg hs]; exact srt_short (by simp), p⟩⟩
end
end WS
/-! WsO: the law's draws. -/
namespace WS
open PySem PySem.Spec PyProof.Rows L2
section
variable {K : PySem.W.Frag} {σ : L2.St} {H : Hp} {te ta tb : TE} {D : Ends} {u : TS} {d : PyData} {i j n : Int} {p : Addr} {ns : List Int} {k : Nat}
theorem ed_fdiv (hc : CDiv i j) (ha : Ed ta σ H (.int i)) (hb : Ed tb σ H (.int j)) : Ed (tOp (rI CDiv fun i j => .int (i / j)) ta tb) σ H (.int (i / j)) := ed_I hc ha hb fun _ => .int _
theorem ed_pow (hc : CPow i j) (ha : Ed ta σ H (.int i)) (hb : Ed tb σ H (.int j)) : Ed (tOp (rI CPow fun i j => .int (i ^ j.toNat)) ta tb) σ H (.int (i ^ j.toNat)) := ed_I hc ha hb fun _ => .int _
theorem ed_lenS (hv : σ[k]? = some (some (.ref p))) (hs : SqL K H p (ns.map V.int)) : Ed (tCB (rLenQ K) (tCons (tVar k) tNil)) σ H (.int ns.length) := fun H1 e Q q =>
  ⟨_, hv, p, _, rfl, .inl (e.seq hs), q _ H1 (.refl _) (by rw [List.length_map]; exact .int _)⟩
theorem ed_ixS (hv : σ[k]? = some (some (.ref p))) (hs : SqL K H p (ns.map V.int)) (hb : Ed tb σ H (.int i)) (he : atI ns i = some n) : Ed (tOp (rIxL K) (tVar k) tb) σ H (.int n) := fun H1 e Q q =>
  ⟨_, hv, hb H1 e _ fun y H2 e2 t => ⟨p, _, i, .int n, rfl, Tp.ofInt t, (e.trans e2).seq hs, by rw [atI_map, he]; rfl, q _ H2 e2 (.int n)⟩⟩
theorem el_slS {th : TO} {hi : Option Int} (hv : σ[k]? = some (some (.ref p))) (hs : SqL K H p (ns.map V.int)) (h2 : Eo th σ H hi) : El (tSl (rSlL K) (tVar k) tNoPart th) σ H (((ns.map PyData.int).drop (HT.sIx ns.length 0 none)).take (HT.sIx ns.length ns.length hi - HT.sIx ns.length 0 none)) := fun H1 e Q q =>
  ⟨_, hv, h2 H1 e _ fun H2 e2 => ⟨p, _, rfl, (e.trans e2).seq hs, fun p' hp => q _ _ (e2.trans (sm_new hp)) ⟨p', rfl, _, upd_same, by
    have t := TpA.cut (tpa_ints (H := upd H2 p' (.lst (cutV (ns.map V.int) none hi))) ns) none hi
    rw [List.length_map] at t
    exact t⟩⟩⟩
/-- l[i] = e, l a list of ints -/
theorem q_lset {i : Int} {j : Nat} (hv : σ[k]? = some (some (.ref p))) (hp : H p = some (.lst (ns.map V.int))) (h : Ed te σ H (.int n)) (hj : ixN ns.length i = some j) (kk : ∀ H', Same (dels H [p]) H' → H' p = some (.lst ((ns.set j n).map V.int)) → u D σ H') : tSeq (tAsg te (gSub (tVar k) (tC (.int i)) rSetL)) u D σ H :=
  h H (.refl _) _ fun v H2 e2 t => ⟨_, hv, p, _, i, j, rfl, rfl, e2 _ _ hp, by rw [List.length_map]; exact hj, by
    cases Tp.ofInt t
    exact kk _ (Same.dels_upd (Same.to_dels e2) (by simp)) (by rw [upd_same, List.map_set])⟩
theorem q_cbG {ta : TA} {r : List V → Hp → VK → Prop} {g : TG} {P : List V → Hp → Prop} (A : Ea ta σ H P) (k : ∀ vs H', Same H H' → P vs H' → r vs H' (fun x H3 => g x σ H3 (u D))) : tSeq (tAsg (tCB r ta) g) u D σ H := A H (.refl _) _ k
end
/-! ### the vat -/
def Vat (p : Addr) (H : Hp) : Prop := ∃ a b c : Int, H p = some (.lst [.int a, .int b, .int c])
theorem Vat.up {p : Addr} {H H' : Hp} (h : Vat p H) (e : Same H H') : Vat p H' := let ⟨a, b, c, h⟩ := h; ⟨a, b, c, e _ _ h⟩
def S_sip : Sp := fun vs H Q _ => ∃ (p : Addr) (top : Int), vs = [.ref p, .int top] ∧ Vat p H ∧ 0 < top ∧ top < 1073741824 ∧ ∀ r H', 0 ≤ r → r < top → Same (dels H [p]) H' → Vat p H' → Q (.int r) H'
section
variable {P : Program} {w : World} {K : PySem.W.Frag} {mg : PySem.Str → Option Value} {base : Heap}
abbrev s__law_sip : Stmt := topS 57
abbrev N__law_sip : List PySem.Str := ["_law_vat", "_law_top", "_law_got", "_law_base"]
theorem sc__law_sip : FnScope N__law_sip ["_law_vat", "_law_top"] (defScope s__law_sip) := ⟨rfl, rfl, rfl, by decide +kernel, rfl, by decide +kernel, by decide +kernel⟩
theorem vls {p : Addr} {H : Hp} {ns : List Int} (h : H p = some (.lst (ns.map V.int))) : Ls H p (ns.map PyData.int) := ⟨_, h, tpa_ints ns⟩
theorem d_sip (B : Bt mg) (M : Md K mg "_law_sip" s__law_sip) : Dv P w K mg base "_law_sip" 1 ["_law_vat", "_law_top"] S_sip :=
  dv_mk M sc__law_sip (fun _ _ _ _ _ _ us hl => match us, hl with | [_, _], _ => rfl) (fun vs H Q E ⟨_, _, e, _⟩ => by rw [e]; rfl) fun f cdv A outer s H E hr => ⟨_,
(pss_cons (ps_if (pt_cmpR op_gt (pe_ix (r := rIxL K) ix_list (pv 0) pe_int (fun _ _ => rfl)) pe_int (nomark _)) (pss_cons (ps_asg (pe_callB call_divmod (by rfl) B.b_divmod (by decide +kernel) (pa_cons (pe_ix (r := rIxL K) ix_list (pv 0) pe_int (fun _ _ => rfl)) (pa_cons (pv 1) pa_nil))) (pg_tup rfl (pgs_cons (pg_sub (pv 0) pe_int set_list) (pgs_cons (pg_name (i := 2) sc__law_sip.nd rfl (.inl rfl)) pgs_nil))))
  (pss_one (ps_ret (pv 2)))) pss_nil)
  (pss_cons (ps_asg (pe_op op_add (pe_ix (r := rIxL K) ix_list (pv 0) pe_int (fun _ _ => rfl)) pe_int) (pg_sub (pv 0) pe_int set_list))
  (pss_cons (ps_set (i := 3) sc__law_sip.nd rfl (.inl rfl) (pe_op op_mod (pe_callTy call_int1 (by rfl) B.b_int (by decide +kernel) (pa_cons (pe_op op_add (pe_ix (r := rIxL K) ix_list (pv 0) pe_int (fun _ _ => rfl)) (pe_op op_mul pe_int (pe_ix (r := rIxL K) ix_list (pv 0) pe_int (fun _ _ => rfl)))) pa_nil)) pe_int))
  (pss_cons (ps_asg (pe_op op_mod (pe_callTy call_int1 (by rfl) B.b_int (by decide +kernel) (pa_cons (pe_op op_add (pe_op op_add (pe_op op_mul (pv 3) (pe_op op_add (pe_op op_mod (pe_callTy call_int1 (by rfl) B.b_int (by decide +kernel) (pa_cons (pv 3) pa_nil)) pe_int) pe_int)) (pe_op op_mul pe_int (pe_ix (r := rIxL K) ix_list (pv 0) pe_int (fun _ _ => rfl)))) pe_int) pa_nil)) pe_int) (pg_sub (pv 0) pe_int set_list))
  (pss_one (ps_ret (pe_op op_mod (pe_op op_fdiv (pe_callTy call_int1 (by rfl) B.b_int (by decide +kernel) (pa_cons (pe_ix (r := rIxL K) ix_list (pv 0) pe_int (fun _ _ => rfl)) pa_nil)) pe_int) (pv 1)))))))), fun vs Q ⟨p, top, ev, ⟨a, b, c, hv⟩, ht0, ht1, q⟩ => by
  subst ev
  have hv : H p = some (.lst ([a, b, c].map V.int)) := hv
  have tst : Et (tTest (tOp (rI0 fun i j => .bl (decide (j < i))) (tOp (rIxL K) (tVar 0) (tC (.int 0))) (tC (.int 0)))) (L2.start N__law_sip [.ref p, .int top]) H (decide (0 < a)) := et_test (ed_gt (ed_ixL (el_var rfl (vls hv)) ed_int rfl) ed_int)
  by_cases ha : 0 < a
  · refine s_ifT (D := { nx := _, rt := Q }) (et_is tst (decide_eq_true ha)) fun H1 e1 => ?_
    refine q_cbG (ea_cons (ed_ixL (el_var rfl (vls (e1 _ _ hv))) ed_int (d := .int a) rfl) (ea_cons (ed_varI rfl) ea_nil)) fun vs H2 e2 t => ?_
    obtain ⟨x, y, rfl, tx, ty⟩ := tpa2 t
    cases Tp.ofInt tx
    cases Tp.ofInt ty
    refine ⟨a, top, rfl, ⟨ht0, ht1⟩, fun p' hp' => ?_⟩
    have hv2 := e2 _ _ (e1 _ _ hv)
    have hne : p ≠ p' := fun z => by rw [z, hp'] at hv2; cases hv2
    refine ⟨p', [.int (a / top), .int (a % top)], rfl, .inl (.inl upd_same), rfl, _, _, rfl, ⟨.ref p, rfl, p, _, 0, 0, rfl, rfl, (by rw [upd_ne hne]; exact hv2), rfl, ?_⟩⟩
    refine ⟨.int (a % top), [], rfl, rfl, .int (a % top), rfl, ?_⟩
    refine q _ _ (Int.emod_nonneg a (by omega)) (Int.emod_lt_of_pos a ht0) (Same.dels_upd (Same.to_dels ((e1.trans e2).trans (sm_new hp'))) (by simp)) ⟨a / top, b, c, upd_same⟩
  · refine q_ifF (et_is tst (decide_eq_false ha)) fun H1 e1 => ?_
    have hv1 := e1 _ _ hv
    refine q_lset (n := c + 1) (ns := [a, b, c]) (j := 2) rfl hv1 (ed_add (ed_ixL (el_var rfl (vls hv1)) ed_int rfl) ed_int) rfl fun H2 s2 hv2 => ?_
    have hv2 : H2 p = some (.lst ([a, b, c + 1].map V.int)) := hv2
    refine q_set (ed_mod (by decide) (ed_int1 (ed_add (ed_ixL (el_var rfl (vls hv2)) ed_int rfl) (ed_mul (.inl (by decide)) ed_int (ed_ixL (el_var rfl (vls hv2)) ed_int rfl)))) ed_int) fun x3 H3 e3 t3 => ?_
    cases Tp.ofInt t3
    generalize (b + 43013 * (c + 1)) % 2147482583 = bs at t3
    have hv3 := e3 _ _ hv2
    refine q_lset (n := (bs * (bs % 10009 + 74017) + 79 * (c + 1) + 41) % 2147482583) (ns := [a, b, c + 1]) (j := 1) rfl hv3 (ed_mod (by decide) (ed_int1 (ed_add (ed_add (ed_mul (.inr (by omega)) (ed_varI rfl) (ed_add (ed_mod (by decide) (ed_int1 (ed_varI rfl)) ed_int) ed_int)) (ed_mul (.inl (by decide)) ed_int (ed_ixL (el_var rfl (vls hv3)) ed_int rfl))) ed_int)) ed_int) rfl fun H4 s4 hv4 => ?_
    generalize (bs * (bs % 10009 + 74017) + 79 * (c + 1) + 41) % 2147482583 = b2 at hv4
    have hv4 : H4 p = some (.lst ([a, b2, c + 1].map V.int)) := hv4
    refine s_ret (ed_mod ht0 (ed_fdiv ⟨by decide, by decide⟩ (ed_int1 (ed_ixL (el_var rfl (vls hv4)) ed_int rfl)) ed_int) (ed_varI rfl)) fun z H5 e5 tz => ?_
    cases Tp.ofInt tz
    refine q _ H5 (Int.emod_nonneg _ (by omega)) (Int.emod_lt_of_pos _ ht0) ?_ ⟨a, b2, c + 1, e5 _ _ hv4⟩
    exact dels_step e1 (Same.dels_trans s2 (dels_step e3 (Same.dels_trans s4 (Same.to_dels e5))))⟩
end
end WS
/-! WsP: dip, vat_of, forms, form, sums. -/
namespace WS
open PySem PySem.Spec PyProof.Rows L2
theorem kp_dels1 {H H' : Hp} {p : Addr} {o : HO} (hp : H p = some o) (f : Fix o = false) (e : Same (dels H [p]) H') : Kp H H' := kp_dels (fun a ha => by rw [List.mem_singleton.mp ha]; exact ⟨o, hp, f⟩) e
theorem Vat.fix {p : Addr} {H : Hp} (h : Vat p H) : ∃ o, H p = some o ∧ Fix o = false := let ⟨a, b, c, h⟩ := h; ⟨_, h, rfl⟩
theorem Vat.kp {p : Addr} {H H' : Hp} (h : Vat p H) (e : Same (dels H [p]) H') : Kp H H' := let ⟨a, b, c, h⟩ := h; kp_dels1 h rfl e
theorem ls_dels {H H' : Hp} {p q : Addr} {o : HO} {ds : List PyData} (hp : H p = some o) (f : Fix o = false) (e : Same (dels H [p]) H') (hq : q ≠ p) (l : Ls H q ds) : Ls H' q ds := by
  obtain ⟨xs, h1, h2⟩ := l
  exact ⟨xs, e _ _ (by rw [dels_some (by simpa using hq)]; exact h1), h2.kp (kp_dels1 hp f e)⟩
section
variable {K : PySem.W.Frag} {σ : L2.St} {H : Hp} {te ta tb : TE} {D : Ends} {u : TS} {top : Int} {p : Addr} {k i j : Nat} {E : XK} {Q : VK} {d1 d2 : List PyData} {P R : V → Hp → Prop}
theorem call_sip (hv : σ[k]? = some (some (.ref p))) (h : Ed te σ H (.int top)) (V : Vat p H) (h0 : 0 < top) (h1 : top < 1073741824) (kk : ∀ r H', 0 ≤ r → r < top → Same (dels H [p]) H' → Vat p H' → Q (.int r) H') : tCall S_sip [] E (tCons (tVar k) (tCons te tNil)) σ H Q :=
  ⟨_, hv, h H (.refl _) _ fun v H2 e2 t => ⟨p, top, by rw [Tp.ofInt t]; rfl, V.up e2, h0, h1, fun r H' a b c d => kk r H' a b (dels_step e2 c) d⟩⟩
theorem q_par (h1 : Eln ta σ H d1) (h2 : Eln tb σ H d2) (kk : ∀ p q H', H p = none → H q = none → q ≠ p → Same H H' → Ls H' p d1 → Ls H' q d2 → u D ((σ.set i (some (.ref p))).set j (some (.ref q))) H') : tSeq (tPar i j (tCons ta (tCons tb tNil))) u D σ H :=
  h1 H (.refl _) _ fun p H1 hp e1 l1 => h2 H1 e1 _ fun q H2 hq e2 l2 => ⟨_, _, rfl, kk p q H2 hp (e1.free hq) (fun z => by obtain ⟨xs, h, _⟩ := l1; rw [z, h] at hq; cases hq) (e1.trans e2) (l1.up e2) l2⟩
theorem q_parE (h1 : Em ta σ H P) (u1 : Up P) (h2 : Em tb σ H R) (kk : ∀ v w H', Same H H' → P v H' → R w H' → u D ((σ.set i (some v)).set j (some w)) H') : tSeq (tPar i j (tCons ta (tCons tb tNil))) u D σ H :=
  h1 H (.refl _) _ fun p H1 e1 l1 => h2 H1 e1 _ fun q H2 e2 l2 => ⟨_, _, rfl, kk p q H2 (e1.trans e2) (u1 _ _ _ e2 l1) l2⟩
theorem eln_revL {ds : List PyData} (h : El te σ H ds) : Eln (tRevL K te) σ H ds.reverse := fun H1 e Q q => h H1 e _ fun v H2 e2 p => by
    obtain ⟨a, rfl, xs, k1, k2⟩ := p
    exact ⟨a, xs, rfl, .inl (.inl k1), fun p' hp => q p' _ (e2.free hp) (e2.trans (sm_new hp)) ⟨_, upd_same, k2.rev.up (sm_new hp)⟩⟩
theorem ei_listQ {a : Addr} {ds : List PyData} (hv : σ[k]? = some (some (.ref a))) (l : Ls H a ds) (hp : a ≠ p) : Ei (iList K (tVar k)) σ H ds Tp (· ∉ [p]) := fun H1 e R q => by
  obtain ⟨xs, h1, h2⟩ := l.up e
  exact ⟨.ref a, hv, a, rfl, ⟨xs, .inl (.inl h1)⟩, q _ H1 (.refl _) (itb_list tp_mono h1 h2.ra (by simpa using hp))⟩
end
section
variable {P : Program} {w : World} {K : PySem.W.Frag} {mg : PySem.Str → Option Value} {base : Heap}
abbrev s__law_dip : Stmt := topS 58
abbrev N__law_dip : List PySem.Str := ["_law_vat", "_law_menu"]
theorem sc__law_dip : FnScope N__law_dip ["_law_vat", "_law_menu"] (defScope s__law_dip) := ⟨rfl, rfl, rfl, by decide +kernel, rfl, by decide +kernel, by decide +kernel⟩
def S_dip : Sp := fun vs H Q _ => ∃ (p m : Addr) (ds : List PyData), vs = [.ref p, .ref m] ∧ Vat p H ∧ Ls H m ds ∧ m ≠ p ∧ 0 < ds.length ∧ ds.length ≤ 100000 ∧ ∀ d, d ∈ ds → ∀ v H', Same (dels H [p]) H' → Vat p H' → Tp H' v d → Q v H'
theorem d_dip (B : Bt mg) (D__law_sip : Dv P w K mg base "_law_sip" 1 ["_law_vat", "_law_top"] S_sip) (M : Md K mg "_law_dip" s__law_dip) : Dv P w K mg base "_law_dip" 2 ["_law_vat", "_law_menu"] S_dip :=
  dv_mk M sc__law_dip (fun _ _ _ _ _ _ us hl => match us, hl with | [_, _], _ => rfl) (fun vs H Q E ⟨_, _, _, e, _⟩ => by rw [e]; rfl) fun f cdv A outer s H E hr => ⟨_,
(pss_one (ps_ret (pe_ix (r := rIxL K) ix_list (pv 1) (pe_cd D__law_sip (hr.mono (by decide)) (by rfl) (pa_cons (pv 0) (pa_cons (pe_callB (r := rLenQ K) call_len_seq (by rfl) B.b_len (by decide +kernel) (pa_cons (pv 1) pa_nil)) pa_nil))) (fun _ _ => rfl)))), fun vs Q ⟨p, m, ds, ev, V, l, hne, h0, h1, q⟩ => by
  subst ev
  refine ⟨.ref m, rfl, ?_⟩
  refine call_sip rfl (ed_lenL (el_var rfl l)) V (by omega) (by omega) fun r H' r0 r1 s V' => ?_
  obtain ⟨o, ho, hf⟩ := V.fix
  obtain ⟨xs, k1, k2⟩ := ls_dels ho hf s hne l
  have hr : r.toNat < ds.length := by omega
  have hd : atI ds r = some ds[r.toNat] := by
    have := atI_nat (List.getElem?_eq_getElem hr)
    rw [show ((r.toNat : Nat) : Int) = r by omega] at this
    exact this
  obtain ⟨v, hv, tv⟩ := k2.at hd
  exact ⟨m, xs, r, v, rfl, rfl, .inl (.inl k1), hv, q _ (List.getElem_mem hr) v H' s V' tv⟩⟩
abbrev s__law_vat_of : Stmt := topS 56
abbrev N__law_vat_of : List PySem.Str := ["_law_script", "_law_turn", "_law_cell", "_law_blended", "_law_at", "_law_each"]
theorem sc__law_vat_of : FnScope N__law_vat_of ["_law_script", "_law_turn"] (defScope s__law_vat_of) := ⟨rfl, rfl, rfl, by decide +kernel, rfl, by decide +kernel, by decide +kernel⟩
def S_vat_of (K : PySem.W.Frag) : Sp := fun vs H Q _ => ∃ (p : Addr) (t : Int) (ns : List Int), vs = [.ref p, .int t] ∧ SqL K H p (ns.map V.int) ∧ 0 ≤ t ∧ t ≤ 100 ∧ ∀ a H', H a = none → Same H H' → Vat a H' → Q (.ref a) H'
theorem d_vat_of (B : Bt mg) (M : Md K mg "_law_vat_of" s__law_vat_of) : Dv P w K mg base "_law_vat_of" 1 ["_law_script", "_law_turn"] (S_vat_of K) :=
  dv_mk M sc__law_vat_of (fun _ _ _ _ _ _ us hl => match us, hl with | [_, _], _ => rfl) (fun vs H Q E ⟨_, _, _, e, _⟩ => by rw [e]; rfl) fun f cdv A outer s H E hr => ⟨_,
(pss_cons (ps_par (i := 2) (j := 3) rfl sc__law_vat_of.nd rfl rfl (by decide) rfl rfl (pa_cons (pe_ifExp (pt_cmpR op_lt (pv 1) (pe_callB (r := rLenQ K) call_len_seq (by rfl) B.b_len (by decide +kernel) (pa_cons (pv 0) pa_nil)) (nomark _)) (pe_ix (r := rIxL K) ix_list (pv 0) (pv 1) (fun _ _ => rfl)) pe_int) (pa_cons (pe_op op_add pe_int (pe_op op_mul pe_int (pv 1))) pa_nil)) (by rfl))
  (pss_cons (ps_for PassesOwn.never rfl (pi_enum (by rfl) B.b_enumerate (pa_cons (pe_slice (r := rSlL K) sl_list (pv 0) po_none (po_some pe_int)) pa_nil)) (ws_pair (K := K) rfl rfl (pg_name (i := 4) sc__law_vat_of.nd rfl (.inl rfl)) (pg_name (i := 5) sc__law_vat_of.nd rfl (.inl rfl)))
  (pss_one (ps_set (i := 3) sc__law_vat_of.nd rfl (.inl rfl) (pe_op op_mod (pe_callTy call_int1 (by rfl) B.b_int (by decide +kernel) (pa_cons (pe_op op_add (pe_op op_mul (pv 3) (pe_op op_add pe_int (pe_op op_mul pe_int (pv 4)))) (pe_op op_mul pe_int (pv 5))) pa_nil)) pe_int))))
  (pss_one (ps_ret (pe_lst (pa_cons (pe_ifExp (PW.pt (pw_or (pt_cmpR op_lt (pv 2) pe_int (nomark _)) (pw_or1 (pt_cmpR op_ge (pv 2) (pe_op op_pow pe_int pe_int) (nomark _))))) (pe_callB call_abs (by rfl) B.b_abs (by decide +kernel) (pa_cons (pv 2) pa_nil)) pe_int) (pa_cons (pe_op op_mod (pe_callTy call_int1 (by rfl) B.b_int (by decide +kernel) (pa_cons (pe_op op_add (pv 3) (pe_op op_mul pe_int (pv 2))) pa_nil)) pe_int) (pa_cons pe_int pa_nil)))))))), fun vs Q ⟨p, t, ns, ev, hs, h0, h1, q⟩ => by
  subst ev
  refine q_parE (P := fun v _ => ∃ c : Int, v = .int c) (R := fun v _ => ∃ c : Int, v = .int c) (em_if (b := decide (t < (ns.length : Int))) (et_test (ed_lt (ed_varI rfl) (ed_lenS rfl hs))) (fun z => ?_) fun z => ?_) (fun _ _ _ _ h => h) ((ed_add ed_int (ed_mul (.inl (by decide)) ed_int (ed_varI rfl))).imp fun v H' _ h => ⟨_, Tp.ofInt h⟩) fun v w H1 e1 ⟨cell, ec⟩ ⟨bl, eb⟩ => ?_
  · have z := of_decide_eq_true z
    have ht : t.toNat < ns.length := by omega
    have hd : atI ns t = some ns[t.toNat] := by
      have := atI_nat (List.getElem?_eq_getElem ht)
      rw [show ((t.toNat : Nat) : Int) = t by omega] at this
      exact this
    exact (ed_ixS rfl hs (ed_varI rfl) hd).imp fun v H' _ h => ⟨_, Tp.ofInt h⟩
  · exact ed_int.imp fun v H' _ h => ⟨0, Tp.ofInt h⟩
  subst ec eb
  have hs1 := e1.seq hs
  refine q_for (ei_enumL (el_slS rfl hs1 (eo_some ed_int))) (fun i σ' H' => ∃ (b : Int) (x4 x5 : Option V), σ' = [some (.ref p), some (.int t), some (.int cell), some (.int b), x4, x5]) (fun H' _ => ⟨bl, none, none, rfl⟩) ?_ ?_
  · rintro i d hi x σ1 H3 H4 s3 ⟨b, x4, x5, rfl⟩ s4 tx Nx n
    rw [List.getElem?_mapIdx] at hi
    have h10 : HT.sIx ns.length 0 none = 0 := rfl
    have h11 : HT.sIx ns.length ns.length (some (10 : Int)) = min 10 ns.length := HT.sIx_nat _ _ 10
    rw [h10, h11, Nat.sub_zero, List.drop_zero] at hi
    obtain ⟨e, he, hi'⟩ : ∃ e : Int, ((ns.map PyData.int).take (min 10 ns.length))[i]? = some (.int e) ∧ d = .tuple [.int (i : Int), .int e] := by
      cases q : ((ns.map PyData.int).take (min 10 ns.length))[i]? with
      | none => rw [q] at hi; cases hi
      | some d0 =>
        rw [q] at hi
        have hm := List.mem_of_mem_take (List.mem_of_getElem? q)
        obtain ⟨e, _, rfl⟩ := List.mem_map.mp hm
        exact ⟨e, rfl, (Option.some.inj hi).symm⟩
    subst hi'
    have hi10 : i < 10 := by
      have := (List.getElem?_eq_some_iff.mp he).1
      rw [List.length_take] at this
      omega
    refine g_pair tx fun u y tu ty => ?_
    cases Tp.ofInt tu
    cases Tp.ofInt ty
    refine s_set (ed_mod (by decide) (ed_int1 (ed_add (ed_mul (.inr (by omega)) (ed_varI rfl) (ed_add ed_int (ed_mul (.inl (by decide)) ed_int (ed_varI rfl)))) (ed_mul (.inl (by decide)) ed_int (ed_varI rfl)))) ed_int) fun z H5 e5 tz => ?_
    cases Tp.ofInt tz
    exact n _ H5 e5 ⟨_, _, _, rfl⟩
  · rintro σ' H' s' ⟨b, x4, x5, rfl⟩
    have key : ∀ c0 : Int, Ed (tIf (tOr (tTest (tOp (rI0 fun i j => .bl (decide (i < j))) (tVar 2) (tC (.int 0)))) (tTest (tOp (rI0 fun i j => .bl (decide (j ≤ i))) (tVar 2) (tOp (rI CPow fun i j => .int (i ^ j.toNat)) (tC (.int 10)) (tC (.int 15)))))) (tCB (fun xs H Q => ∃ i, xs = [.int i] ∧ Q (.int (if i < 0 then -i else i)) H) (tCons (tVar 2) tNil)) (tC (.int 0))) [some (.ref p), some (.int t), some (.int cell), some (.int b), x4, x5] H' (.int (if (decide (cell < 0) || decide ((10 : Int) ^ (Int.toNat 15) ≤ cell)) = true then (if cell < 0 then -cell else cell) else 0)) := fun _ => by
      refine em_if (et_or (et_test (ed_lt (ed_varI rfl) ed_int)) fun _ => et_test (ed_ge (ed_varI rfl) (ed_pow ⟨by decide, by decide, by decide⟩ ed_int ed_int))) (fun z => ?_) fun z => ?_
      · rw [if_pos z]; exact ed_abs (ed_varI rfl)
      · rw [if_neg (by rw [z]; exact Bool.false_ne_true)]; exact ed_int
    refine s_retN (eln_lst (ds := [_, _, .int 0]) (by show (3 : Nat) ≤ 100000; decide) (ea_cons (key 0) (ea_cons (ed_mod (by decide) (ed_int1 (ed_add (ed_varI rfl) (ed_mul (.inl (by decide)) ed_int (ed_varI rfl)))) ed_int) (ea_cons ed_int ea_nil)))) Q fun a H2 ha e2 l2 => ?_
    obtain ⟨xs, k1, k2⟩ := l2
    refine q a H2 ((e1.trans s').free ha) ((e1.trans s').trans e2) ?_
    obtain ⟨x, y, z, rfl, tx, ty, tz⟩ := tpa3 k2
    rw [tx.ofInt, ty.ofInt, tz.ofInt] at k1
    exact ⟨_, _, _, k1⟩⟩
end
end WS
/-! WsQ: forms, form, sums. -/
namespace WS
open PySem PySem.Spec PyProof.Rows L2
/-! ### the mirror -/
def fmTop (hl : List Int × Int) : Int := if hl.1 = [] then hl.2 else hl.1.getLastD 0
def fmIn (st : List (List Int) × List (List Int × Int)) (hl : List Int × Int) : List (List Int) × List (List Int × Int) :=
  if hl.2 = 0 then (st.1 ++ [hl.1], st.2) else (st.1, st.2 ++ (List.range (min hl.2 (fmTop hl) + 1 - 1).toNat).map fun (k : Nat) => (hl.1 ++ [1 + (k : Int)], hl.2 - (1 + (k : Int))))
def fmUp (n : Nat) : Nat → List (List Int) × List (List Int × Int)
  | 0 => ([], [([], (n : Int))])
  | i + 1 => (fmUp n i).2.foldl fmIn ((fmUp n i).1, [])
def formsU (n : Nat) : List (List Int) := (fmUp n n).1 ++ ((fmUp n n).2.filter fun hl => decide (hl.2 = 0)).map (·.1)
def fmOk (n : Nat) : Bool := (List.range (n + 1)).all fun i => decide ((fmUp n i).1.length ≤ 1000) && decide ((fmUp n i).2.length ≤ 1000) && (fmUp n i).2.all fun hl => decide (0 ≤ hl.2) && decide (hl.2 ≤ 6) && decide (hl.1.length ≤ 10) && decide (-100 ≤ fmTop hl) && decide (fmTop hl ≤ 100)
theorem fm_all : ∀ n : Nat, n ≤ 6 → fmOk n = true
  | 0, _ => by decide +kernel
  | 1, _ => by decide +kernel
  | 2, _ => by decide +kernel
  | 3, _ => by decide +kernel
  | 4, _ => by decide +kernel
  | 5, _ => by decide +kernel
  | 6, _ => by decide +kernel
  | _ + 7, h => by omega
def fmUse (n : Nat) : Bool := decide (0 < (formsU n).length) && decide ((formsU n).length ≤ 1000) && (decide ((formsU n).length < 2) || (formsU n).all fun t => !t.isEmpty)
theorem fu_all : ∀ n : Nat, n ≤ 6 → fmUse n = true
  | 0, _ => by decide +kernel
  | 1, _ => by decide +kernel
  | 2, _ => by decide +kernel
  | 3, _ => by decide +kernel
  | 4, _ => by decide +kernel
  | 5, _ => by decide +kernel
  | 6, _ => by decide +kernel
  | _ + 7, h => by omega
theorem fmIn_len (st : List (List Int) × List (List Int × Int)) (hl : List Int × Int) : st.1.length ≤ (fmIn st hl).1.length ∧ st.2.length ≤ (fmIn st hl).2.length := by
  unfold fmIn
  split <;> simp
theorem fmF_len : ∀ (l : List (List Int × Int)) (st : List (List Int) × List (List Int × Int)), st.1.length ≤ (l.foldl fmIn st).1.length ∧ st.2.length ≤ (l.foldl fmIn st).2.length
  | [], _ => ⟨Nat.le_refl _, Nat.le_refl _⟩
  | x :: r, st => by
    have h1 := fmIn_len st x
    have h2 := fmF_len r (fmIn st x)
    exact ⟨Nat.le_trans h1.1 h2.1, Nat.le_trans h1.2 h2.2⟩
theorem fmF_part (l : List (List Int × Int)) (i : Nat) (st : List (List Int) × List (List Int × Int)) : ((l.take i).foldl fmIn st).1.length ≤ (l.foldl fmIn st).1.length ∧ ((l.take i).foldl fmIn st).2.length ≤ (l.foldl fmIn st).2.length := by
  have e : l.foldl fmIn st = (l.drop i).foldl fmIn ((l.take i).foldl fmIn st) := by rw [← List.foldl_append, List.take_append_drop]
  rw [e]
  exact fmF_len _ _
section
variable {P : Program} {w : World} {K : PySem.W.Frag} {mg : PySem.Str → Option Value} {base : Heap}
abbrev s__law_forms : Stmt := topS 59
abbrev N__law_forms : List PySem.Str := ["_law_n", "_law_found", "_law_line_here", "_law_turn", "_law_later", "_law_head", "_law_left", "_law_top_here", "_law_part"]
theorem sc__law_forms : FnScope N__law_forms ["_law_n"] (defScope s__law_forms) := ⟨rfl, rfl, rfl, by decide +kernel, rfl, by decide +kernel, by decide +kernel⟩
abbrev S_forms : Sp := Prn (fun n : Nat => [.int (n : Int)]) (fun n => n ≤ 6) (fun n => (srt ((formsU n).map pT)).reverse)
theorem ed_last {σ : L2.St} {H : Hp} {te : TE} {l : List Int} (hl : l ≠ []) (h : Ed te σ H (pT l)) : Ed (tOp (rIxT K) te (tUn (rU fun i => .int (-i)) (tC (.int 1)))) σ H (.int (l.getLastD 0)) := by
  refine ed_ixT h (ed_neg ed_int) ?_
  rcases List.eq_nil_or_concat l with rfl | ⟨ini, a, rfl⟩
  · exact absurd rfl hl
  · rw [List.concat_eq_append, List.map_append, List.map_singleton]
    have : (ini ++ [a]).getLastD 0 = a := by simp
    rw [this]
    exact atI_last
theorem d_forms (B : Bt mg) (M : Md K mg "_law_forms" s__law_forms) : Dv P w K mg base "_law_forms" 1 ["_law_n"] S_forms :=
  dv_prn M sc__law_forms (fun _ _ _ _ _ _ us hl => match us, hl with | [_], _ => rfl) (fun _ => rfl) fun f cdv A outer s H E hr => ⟨_,
(pss_cons (ps_par (i := 1) (j := 2) rfl sc__law_forms.nd rfl rfl (by decide) rfl rfl (pa_cons (pe_lst pa_nil) (pa_cons (pe_lst (pa_cons (pe_tup (pa_cons (pe_tup pa_nil) (pa_cons (pv 0) pa_nil))) pa_nil)) pa_nil)) (by rfl))
  (pss_cons (ps_for PassesOwn.never rfl (pi_range1 (by rfl) B.b_range (pa_cons (pv 0) pa_nil)) (pg_name (i := 3) sc__law_forms.nd rfl (.inl rfl))
  (pss_cons (ps_set (i := 4) sc__law_forms.nd rfl (.inl rfl) (pe_lst pa_nil))
  (pss_cons (ps_for PassesOwn.never rfl (pi_list (pv 2)) (ws_pair (K := K) rfl rfl (pg_name (i := 5) sc__law_forms.nd rfl (.inr rfl)) (pg_name (i := 6) sc__law_forms.nd rfl (.inr rfl)))
  (pss_one (ps_if (pt_cmpR op_eq (pv 6) pe_int (nomark _)) (pss_one (ps_expr (pe_bm PySem.F.plainAttrs_list PySem.F.slot_list_append PySem.F.type_list_append mt_append (pv 1) (pa_cons (pv 5) pa_nil)))) (pss_cons (ps_set (i := 7) sc__law_forms.nd rfl (.inl rfl) (pe_callB (call_min2 rfl) (by rfl) B.b_min (by decide +kernel) (pa_cons (pv 6) (pa_cons (pe_ifExp (pt_cmpR (r := rNeD K) (op_neD hr.units) (pv 5) (pe_tup pa_nil) (nomark _)) (pe_ix (r := rIxT K) ix_tup (pv 5) (pe_un un_neg pe_int) (fun _ _ => rfl)) (pv 6)) pa_nil))))
  (pss_one (ps_set (i := 4) sc__law_forms.nd rfl (.inl rfl) (pe_op op_cat (pv 4) (pe_lc (own := [("_law_part", 8)]) rfl sc__law_forms.nd (pi_range2 (by rfl) B.b_range (pa_cons pe_int (pa_cons (pe_op op_add (pv 7) pe_int) pa_nil))) (blkOk_by (own := [("_law_part", 8)]) (N := N__law_forms) (sc := defScope s__law_forms) (by decide +kernel)) (fun _ _ _ _ _ => (pg_name (i := 8) sc__law_forms.nd rfl (Or.inl rfl))) (fun _ _ _ _ _ => pts_nil) (fun _ _ _ _ _ => (pe_tup (pa_cons (pe_op (r := rCatA K) op_catA (pv 5) (pe_tup (pa_cons (pv 8) pa_nil))) (pa_cons (pe_op op_sub (pv 6) (pv 8)) pa_nil))))))))))))
  (pss_one (ps_set (i := 2) sc__law_forms.nd rfl (.inl rfl) (pv 4))))))
  (pss_one (ps_ret (pe_revL (pe_callB (r := rSortD K) (cr_sortD hr.units) (by rfl) B.b_sorted (by decide +kernel) (pa_cons (pe_op op_cat (pv 1) (pe_lc (own := [("_law_head", 5), ("_law_left", 6)]) rfl sc__law_forms.nd (pi_list (pv 2)) (blkOk_by (own := [("_law_head", 5), ("_law_left", 6)]) (N := N__law_forms) (sc := defScope s__law_forms) (by decide +kernel)) (fun _ _ _ _ _ => (ws_pair (K := K) rfl rfl (pg_name (i := 5) sc__law_forms.nd rfl (Or.inl rfl)) (pg_name (i := 6) sc__law_forms.nd rfl (Or.inl rfl)))) (fun _ _ _ _ _ => (pts_one (pt_cmpR op_eq (pv 6) pe_int (nomark _)))) (fun _ _ _ _ _ => (pv 5)))) pa_nil))))))), fun n0 vs t hn => by
  obtain ⟨v, rfl, h1⟩ := tpa1 t
  cases Tp.ofInt h1
  have hok := fm_all n0 hn
  have huse := fu_all n0 hn
  simp only [fmOk, Bool.and_eq_true, decide_eq_true_eq, List.all_eq_true, List.mem_range] at hok
  simp only [fmUse, Bool.and_eq_true, decide_eq_true_eq, Bool.or_eq_true, List.all_eq_true, Bool.not_eq_true', List.isEmpty_eq_false_iff] at huse
  intro Q q
  refine q_par (d1 := []) (d2 := [pP ([], (n0 : Int))]) (eln_lst (by decide) ea_nil) (eln_lst (by show (1 : Nat) ≤ 100000; decide) (ea_cons (ed_tup (by show (2 : Nat) ≤ 100000; decide) (ea_cons (ed_tup (ds := []) (by show (0 : Nat) ≤ 100000; decide) ea_nil) (ea_cons (ed_varI rfl) ea_nil))) ea_nil)) fun p q0 H1 hp hq0 hne e1 l1 l2 => ?_
  obtain ⟨xs1, k1, _⟩ := id l1
  have hnew : ∀ a ∈ [p], H a = none := fun a ha => by rw [List.mem_singleton.mp ha]; exact hp
  refine q_forM [p] (fun a ha => by rw [List.mem_singleton.mp ha]; exact ⟨_, k1, rfl⟩) (Ei.of (its := List.range n0) (by have := ei_rng1 (j := (n0 : Int)) (ok := (· ∉ [p])) (σ := ((L2.start N__law_forms [.int (n0 : Int)]).set 1 (some (.ref p))).set 2 (some (.ref q0))) (H := H1) (te := tVar 0) (by omega) (ed_varI rfl); rw [Int.toNat_natCast] at this; exact this)) (fun i σ' H' => ∃ q x3 x4 x5 x6 x7, σ' = [some (.int (n0 : Int)), some (.ref p), some (.ref q), x3, x4, x5, x6, x7, none] ∧ q ≠ p ∧ Ls H' p ((fmUp n0 i).1.map pT) ∧ Ls H' q ((fmUp n0 i).2.map pP)) (fun H' e' => ⟨q0, none, none, none, none, none, rfl, hne, l1.up e', l2.up e'⟩) ?_ ?_
  · rintro i r hi x σ1 H3 H4 s3 ⟨qa, x3, x4, x5, x6, x7, rfl, hqp, lp, lq⟩ s4 tx Nx n
    obtain ⟨rfl, hir⟩ := range_at hi
    cases Tp.ofInt tx
    have ok1 := hok r (by omega)
    have ok2 := hok (r + 1) (by omega)
    have lp4 := lp.up s4
    have lq4 := lq.up s4
    refine q_setN (eln_lst (ds := []) (by decide) ea_nil) fun p4 H5 hp4 e5 l5 => ?_
    obtain ⟨xp, kp5, _⟩ := lp4.up e5
    have hp4p : p4 ≠ p := fun z => by obtain ⟨xs, h, _⟩ := lp4; rw [z, h] at hp4; cases hp4
    refine q_forM [p] (fun a ha => by rw [List.mem_singleton.mp ha]; exact ⟨_, kp5, rfl⟩) (its := (fmUp n0 r).2) (Ei.of (g := pP) (ei_listQ rfl (lq4.up e5) hqp)) (fun j σ' H' => ∃ q4 x5 x6 x7, σ' = [some (.int (n0 : Int)), some (.ref p), some (.ref qa), some (.int (r : Int)), some (.ref q4), x5, x6, x7, none] ∧ q4 ≠ p ∧ Ls H' p ((((fmUp n0 r).2.take j).foldl fmIn ((fmUp n0 r).1, [])).1.map pT) ∧ Ls H' q4 ((((fmUp n0 r).2.take j).foldl fmIn ((fmUp n0 r).1, [])).2.map pP)) (fun H' e' => ⟨p4, x5, x6, x7, rfl, hp4p, (lp4.up e5).up e', l5.up e'⟩) ?_ ?_
    · rintro j hl hj x' σ1 H6 H7 s6 ⟨q4, x5, x6, x7, rfl, hq4, lp6, lq6⟩ s7 tx' Nx2 n2
      rw [fold_take hj] at n2
      have hlm : hl ∈ (fmUp n0 r).2 := List.mem_of_getElem? hj
      have okl := ok1.2 hl hlm
      have hb : (fmIn (((fmUp n0 r).2.take j).foldl fmIn ((fmUp n0 r).1, [])) hl).1.length ≤ 1000 ∧ (fmIn (((fmUp n0 r).2.take j).foldl fmIn ((fmUp n0 r).1, [])) hl).2.length ≤ 1000 := by
        have z := fmF_part (fmUp n0 r).2 (j + 1) ((fmUp n0 r).1, [])
        rw [fold_take hj] at z
        exact ⟨Nat.le_trans z.1 ok2.1.1, Nat.le_trans z.2 ok2.1.2⟩
      generalize ((fmUp n0 r).2.take j).foldl fmIn ((fmUp n0 r).1, []) = st at lp6 lq6 n2 hb
      have hst := fmIn_len st hl
      refine g_pair tx' fun head left th tl => ?_
      cases Tp.ofInt tl
      have lp7 := lp6.up s7
      have lq7 := lq6.up s7
      obtain ⟨xp7, kp7, _⟩ := id lp7
      refine s_if (b := decide (hl.2 = 0)) (et_test (ed_eqI (ed_varI rfl) ed_int)) (fun z H8 e8 => ?_) fun z H8 e8 => ?_
      · have z := of_decide_eq_true z
        refine s_app (ds := st.1.map pT) rfl (lp7.up e8) (ed_var rfl (Tp.up th e8)) (by rw [List.length_map]; omega) fun H9 s9 l9 => n2 _ H9 (dels_step e8 s9) ⟨q4, _, _, _, rfl, hq4, ?_, ?_⟩
        · unfold fmIn; rw [if_pos z, List.map_append]; exact l9
        · unfold fmIn; rw [if_pos z]; exact ls_dels (e8 _ _ kp7) rfl s9 hq4 (lq7.up e8)
      · have z := of_decide_eq_false z
        have hT : Ed (tCB (fun xs H Q => ∃ i j, xs = [.int i, .int j] ∧ Q (.int (if j < i then j else i)) H) (tCons (tVar 6) (tCons (tIf (tTest (tOp (rNeD K) (tVar 5) (tTup tNil))) (tOp (rIxT K) (tVar 5) (tUn (rU fun i => .int (-i)) (tC (.int 1)))) (tVar 6)) tNil))) [some (.int (n0 : Int)), some (.ref p), some (.ref qa), some (.int (r : Int)), some (.ref q4), some head, some (.int hl.2), x7, none] H8 (.int (min hl.2 (fmTop hl))) := by
          refine ed_min (ed_varI rfl) (em_if (b := !decide (hl.1 = [])) (et_test (ed_neT (b := []) (ed_var rfl (Tp.up th e8)) (ed_tup (ds := []) (by show (0 : Nat) ≤ 100000; decide) ea_nil))) (fun y => ?_) fun y => ?_)
          · have y : hl.1 ≠ [] := by simpa using y
            unfold fmTop
            rw [if_neg y]
            exact ed_last y (ed_var rfl (Tp.up th e8))
          · have y : hl.1 = [] := by simpa using y
            unfold fmTop
            rw [if_pos y]
            exact ed_varI rfl
        refine q_set hT fun y7 H9 e9 t7 => ?_
        cases Tp.ofInt t7
        have e89 := e8.trans e9
        have lcx : Eln (tLc (iRng2 (tCons (tC (.int 1)) (tCons (tOp (rI0 fun i j => .int (i + j)) (tVar 7) (tC (.int 1))) tNil))) (gName 8) tYes (tTup (tCons (tOp (rCatA K) (tVar 5) (tTup (tCons (tVar 8) tNil))) (tCons (tOp (rI0 fun i j => .int (i - j)) (tVar 6) (tVar 8)) tNil))) [8]) [some (.int (n0 : Int)), some (.ref p), some (.ref qa), some (.int (r : Int)), some (.ref q4), some head, some (.int hl.2), some (.int (min hl.2 (fmTop hl))), none] H9 ((List.range (min hl.2 (fmTop hl) + 1 - 1).toNat).map fun (k : Nat) => pP (hl.1 ++ [1 + (k : Int)], hl.2 - (1 + (k : Int)))) := by
          refine eln_map (its := List.range (min hl.2 (fmTop hl) + 1 - 1).toNat) (fun k => pP (hl.1 ++ [1 + (k : Int)], hl.2 - (1 + (k : Int)))) (by rw [List.length_range]; omega) (Ei.of (ei_rng2 (by omega) (by omega) ed_int (ed_add (ed_varI rfl) ed_int))) fun k hk x'' H10 e10 tk => hb_name rfl ?_
          exact ed_tup (ds := [pT (hl.1 ++ [1 + (k : Int)]), .int (hl.2 - (1 + (k : Int)))]) (by show (2 : Nat) ≤ 100000; decide) (ea_cons (ed_is (ed_cat (ds := hl.1.map .int) (es := [.int (1 + (k : Int))]) (by rw [List.length_map]; simp; omega) (ed_var rfl (Tp.up th (e89.trans e10))) (ed_tup (by show (1 : Nat) ≤ 100000; decide) (ea_cons (ed_var rfl tk) ea_nil))) (by simp [pT])) (ea_cons (ed_sub (ed_varI rfl) (ed_var rfl tk)) ea_nil))
        refine s_setN (eln_cat (ds := st.2.map pP) ?_ (el_var rfl (lq7.up e89)) (Eln.el lcx)) fun p' H10 hp' e10 l10 => n2 _ H10 (Same.to_dels (e89.trans e10)) ⟨p', _, _, _, rfl, ?_, ?_, ?_⟩
        · have := hb.2
          unfold fmIn at this
          rw [if_neg z] at this
          simp only [List.length_append, List.length_map, List.length_range] at this ⊢
          omega
        · intro y; rw [y, e89 _ _ kp7] at hp'; cases hp'
        · unfold fmIn; rw [if_neg z]; exact (lp7.up e89).up e10
        · unfold fmIn; rw [if_neg z, List.map_append, List.map_map]; exact l10
    · rintro σ' H' s' ⟨q4, x5, x6, x7, rfl, hq4, lp', lq'⟩
      rw [List.take_length] at lp' lq'
      refine s_set (P := fun v _ => v = .ref q4) (em_var rfl (fun _ _ _ _ h => h) rfl) fun z H'' e'' ez => ?_
      subst ez
      exact n _ H'' (dels_step e5 (Same.dels_trans s' (Same.to_dels e''))) ⟨q4, _, _, _, _, _, rfl, hq4, lp'.up e'', lq'.up e''⟩
  · rintro σ' H' s' ⟨qa, x3, x4, x5, x6, x7, rfl, hqp, lp, lq⟩
    rw [List.length_range] at lp lq
    have okn := hok n0 (by omega)
    have lcx : Eln (tLc (iList K (tVar 2)) (gTup K 2 (gCons (gName 5) (gCons (gName 6) gNil))) (tTest (tOp rEq (tVar 6) (tC (.int 0)))) (tVar 5) [5, 6]) [some (.int (n0 : Int)), some (.ref p), some (.ref qa), x3, x4, x5, x6, x7, none] H' (((fmUp n0 n0).2.filter fun hl => decide (hl.2 = 0)).map fun hl => pT hl.1) :=
      eln_filter (its := (fmUp n0 n0).2) (fun hl => pT hl.1) (fun hl => decide (hl.2 = 0)) (by omega) (Ei.of (g := pP) (ei_list (el_var rfl lq))) fun hl hm x' H6 e6 r => hb_pair r (fun _ _ => rfl) fun a c ta tc => ⟨et_test (ed_eqI (ed_var rfl tc) ed_int), fun _ => ed_var rfl ta⟩
    have hlen := huse.1.2
    refine s_retN (eln_revL (el_sortD (ds := (formsU n0).map pT) (Eln.el (eln_is (eln_cat (ds := (fmUp n0 n0).1.map pT) (es := ((fmUp n0 n0).2.filter fun hl => decide (hl.2 = 0)).map fun hl => pT hl.1) ?_ (el_var rfl lp) (Eln.el lcx)) ?_)) (srtb_T huse.2))) Q fun p' H6 hp' e6 l6 => ?_
    · unfold formsU at hlen
      simp only [List.length_append, List.length_map] at hlen ⊢
      omega
    · unfold formsU
      rw [List.map_append, List.map_map]
      rfl
    · have b := (Same.of_dels e1 hnew s')
      exact q p' H6 (b.free hp') (b.trans e6) l6⟩
end
end WS
/-! WsR: form, sums. -/
namespace WS
open PySem PySem.Spec PyProof.Rows L2
section
variable {P : Program} {w : World} {K : PySem.W.Frag} {mg : PySem.Str → Option Value} {base : Heap}
abbrev s__law_form : Stmt := topS 60
abbrev N__law_form : List PySem.Str := ["_law_vat", "_law_least", "_law_top"]
theorem sc__law_form : FnScope N__law_form ["_law_vat", "_law_least", "_law_top"] (defScope s__law_form) := ⟨rfl, rfl, rfl, by decide +kernel, rfl, by decide +kernel, by decide +kernel⟩
def S_form : Sp := fun vs H Q _ => ∃ p : Addr, vs = [.ref p, .int 0, .int 6] ∧ Vat p H ∧ ∀ (n : Nat) (form : List Int), n ≤ 6 → form ∈ formsU n → ∀ v H', Same (dels H [p]) H' → Vat p H' → Tp H' v (pT form) → Q v H'
theorem d_form (B : Bt mg) (D__law_sip : Dv P w K mg base "_law_sip" 1 ["_law_vat", "_law_top"] S_sip) (D__law_dip : Dv P w K mg base "_law_dip" 2 ["_law_vat", "_law_menu"] S_dip) (D__law_forms : Dv P w K mg base "_law_forms" 1 ["_law_n"] S_forms) (M : Md K mg "_law_form" s__law_form) :
    Dv P w K mg base "_law_form" 3 ["_law_vat", "_law_least", "_law_top"] S_form :=
  dv_mk M sc__law_form (fun _ _ _ _ _ _ us hl => match us, hl with | [_, _, _], _ => rfl) (fun vs H Q E ⟨_, e, _⟩ => by rw [e]; rfl) fun f cdv A outer s H E hr => ⟨_,
(pss_one (ps_ret (pe_cd D__law_dip (hr.mono (by decide)) (by rfl) (pa_cons (pv 0) (pa_cons (pe_cd D__law_forms (hr.mono (by decide)) (by rfl) (pa_cons (pe_op op_add (pv 1) (pe_cd D__law_sip (hr.mono (by decide)) (by rfl) (pa_cons (pv 0) (pa_cons (pe_op op_add (pe_op op_sub (pv 2) (pv 1)) pe_int) pa_nil)))) pa_nil)) pa_nil))))), fun vs Q ⟨p, ev, V, q⟩ => by
  subst ev
  refine ⟨.ref p, rfl, .int 0, rfl, ?_⟩
  refine call_sip (top := 7) rfl (ed_add (i := 6) (j := 1) (ed_sub (i := 6) (j := 0) (ed_varI rfl) (ed_varI rfl)) ed_int) V (by decide) (by decide) fun r H' r0 r1 s V' => ⟨0, r, rfl, rfl, r.toNat, ?_, by omega, fun m H2 hm e2 l => ?_⟩
  · have e : (r.toNat : Int) = 0 + r := by omega
    show TpA H' [.int (0 + r)] [.int (r.toNat : Int)]
    rw [e]
    exact .cons (.int _) .nil
  have hn : r.toNat ≤ 6 := by omega
  have huse := fu_all r.toNat hn
  simp only [fmUse, Bool.and_eq_true, decide_eq_true_eq, Bool.or_eq_true, List.all_eq_true, Bool.not_eq_true', List.isEmpty_eq_false_iff] at huse
  obtain ⟨ts, hts, hpm⟩ := srt_map pT (formsU r.toNat)
  have hlen := hpm.length_eq
  have hl : ((srt ((formsU r.toNat).map pT)).reverse).length = (formsU r.toNat).length := by rw [hts, List.length_reverse, List.length_map]; exact hlen
  have hmp : m ≠ p := fun z => by obtain ⟨o, ho, _⟩ := V'.fix; rw [z, ho] at hm; cases hm
  refine ⟨p, m, _, rfl, V'.up e2, l, hmp, by rw [hl]; exact huse.1.1, by rw [hl]; omega, fun d hd v H3 s3 V3 t3 => ?_⟩
  have hd : d ∈ (srt ((formsU r.toNat).map pT)).reverse := hd
  rw [hts, List.mem_reverse] at hd
  obtain ⟨form, hf, rfl⟩ := List.mem_map.mp hd
  exact q r.toNat form hn (hpm.mem_iff.mp hf) v H3 (Same.dels_trans s (dels_step e2 s3)) V3 t3⟩
abbrev s__law_sums : Stmt := topS 64
abbrev N__law_sums : List PySem.Str := ["_law_vat", "_law_total", "_law_found", "_law_left", "_law_turn"]
theorem sc__law_sums : FnScope N__law_sums ["_law_vat", "_law_total"] (defScope s__law_sums) := ⟨rfl, rfl, rfl, by decide +kernel, rfl, by decide +kernel, by decide +kernel⟩
def S_sums : Sp := fun vs H Q _ => ∃ (p : Addr) (total : Int), vs = [.ref p, .int total] ∧ Vat p H ∧ 0 ≤ total ∧ total ≤ 1000 ∧
  ∀ x y z l : Int, 0 ≤ x → 0 ≤ y → 0 ≤ z → 0 ≤ l → x + y + z + l = total → ∀ v H', Same (dels H [p]) H' → Vat p H' → Tp H' v (pT [x, y, z, l]) → Q v H'
theorem d_sums (B : Bt mg) (D__law_sip : Dv P w K mg base "_law_sip" 1 ["_law_vat", "_law_top"] S_sip) (M : Md K mg "_law_sums" s__law_sums) : Dv P w K mg base "_law_sums" 2 ["_law_vat", "_law_total"] S_sums :=
  dv_mk M sc__law_sums (fun _ _ _ _ _ _ us hl => match us, hl with | [_, _], _ => rfl) (fun vs H Q E ⟨_, _, e, _⟩ => by rw [e]; rfl) fun f cdv A outer s H E hr => ⟨_,
(pss_cons (ps_par (i := 2) (j := 3) rfl sc__law_sums.nd rfl rfl (by decide) rfl rfl (pa_cons (pe_lst pa_nil) (pa_cons (pv 1) pa_nil)) (by rfl))
  (pss_cons (ps_for PassesOwn.never rfl (pi_range1 (by rfl) B.b_range (pa_cons pe_int pa_nil)) (pg_name (i := 4) sc__law_sums.nd rfl (.inl rfl))
  (pss_cons (ps_expr (pe_bm PySem.F.plainAttrs_list PySem.F.slot_list_append PySem.F.type_list_append mt_append (pv 2) (pa_cons (pe_cd D__law_sip (hr.mono (by decide)) (by rfl) (pa_cons (pv 0) (pa_cons (pe_op op_add (pv 3) pe_int) pa_nil))) pa_nil)))
  (pss_one (ps_set (i := 3) sc__law_sums.nd rfl (.inl rfl) (pe_op op_sub (pv 3) (pe_ix (r := rIxL K) ix_list (pv 2) (pe_un un_neg pe_int) (fun _ _ => rfl)))))))
  (pss_one (ps_ret (pe_callTy (r := rTupQ K) call_tuple_of (by rfl) B.b_tuple (by decide +kernel) (pa_cons (pe_op op_cat (pv 2) (pe_lst (pa_cons (pv 3) pa_nil))) pa_nil)))))), fun vs Q ⟨p, total, ev, V, h0, h1, q⟩ => by
  subst ev
  refine q_parE (P := fun v H' => ∃ a, v = .ref a ∧ Ls H' a [] ∧ H a = none) (R := Dt (.int total)) (fun H1 e Q q => eln_lst (ds := []) (by decide) ea_nil H1 e Q fun a H2 ha e2 l2 => q _ H2 e2 ⟨a, rfl, l2, e.free ha⟩) (fun _ _ _ e ⟨a, h, l, n⟩ => ⟨a, h, l.up e, n⟩) (ed_varI rfl) fun v wv H1 e1 ⟨a, ea, la, han⟩ tl => ?_
  subst ea
  have hap : a ≠ p := fun z => by obtain ⟨o, ho, _⟩ := V.fix; rw [z, ho] at han; cases han
  cases Tp.ofInt tl
  obtain ⟨xa, ka, _⟩ := id la
  have V1 := V.up e1
  have hfx : ∀ b ∈ [p, a], ∃ o, H1 b = some o ∧ Fix o = false := fun b hb => by
    rcases List.mem_cons.mp hb with rfl | hb
    · exact V1.fix
    · rw [List.mem_singleton.mp hb]; exact ⟨_, ka, rfl⟩
  refine q_forM [p, a] hfx (Ei.of (its := List.range 3) (by have := ei_rng1 (j := 3) (ok := (· ∉ [p, a])) (σ := ((L2.start N__law_sums [.ref p, .int total]).set 2 (some (.ref a))).set 3 (some (.int total))) (H := H1) (te := tC (.int 3)) (by decide) ed_int; exact this)) (fun i σ' H' => ∃ (xs : List Int) (left : Int) (x4 : Option L2.V), σ' = [some (.ref p), some (.int total), some (.ref a), some (.int left), x4] ∧ xs.length = i ∧ (∀ x ∈ xs, 0 ≤ x) ∧ xs.sum + left = total ∧ 0 ≤ left ∧ Ls H' a (xs.map .int) ∧ Vat p H') (fun H' e' => ⟨[], total, none, rfl, rfl, fun x hx => by simp at hx, by simp, h0, la.up e', V1.up e'⟩) ?_ ?_
  · rintro i r hi x σ1 H3 H4 s3 ⟨xs, left, x4, rfl, hxl, hx0, hsum, hl0, l3, V3⟩ s4 tx Nx n
    have hle : left ≤ total := by have := nn_sum hx0; omega
    have l4 := l3.up s4
    have V4 := V3.up s4
    obtain ⟨xl, kl, kt⟩ := id l4
    refine ⟨.ref a, rfl, .inl ⟨rfl, xl, .inl (.inl kl)⟩, ?_⟩
    refine call_sip (top := left + 1) rfl (ed_add (ed_varI rfl) ed_int) V4 (by omega) (by omega) fun r H5 r0 r1 s5 V5 => ?_
    obtain ⟨o, ho, hf⟩ := V4.fix
    obtain ⟨xl5, kl5, kt5⟩ := ls_dels ho hf s5 hap l4
    refine ⟨a, xl5, .int r, rfl, rfl, kl5, by rw [kt5.len, List.length_map]; have := (range_at hi).2; have : xs.length = i := hxl; exact sz_lt (by omega), ?_⟩
    have kp : Kp H5 (upd H5 a (.lst (xl5 ++ [.int r]))) := .upd kl5 rfl
    have l6 : Ls (upd H5 a (.lst (xl5 ++ [.int r]))) a ((xs ++ [r]).map .int) := ⟨_, upd_same, by rw [List.map_append]; exact (kt5.kp kp).snoc (.int r)⟩
    have V6 : Vat p (upd H5 a (.lst (xl5 ++ [.int r]))) := by
      obtain ⟨b, c, d, hb⟩ := V5
      exact ⟨b, c, d, by rw [upd_ne (Ne.symm hap)]; exact hb⟩
    refine s_set (ed_sub (ed_varI rfl) (ed_ixL (el_var rfl l6) (ed_neg ed_int) (d := .int r) (by rw [List.map_append]; exact atI_last))) fun z H7 e7 tz => ?_
    cases Tp.ofInt tz
    refine n _ H7 (Same.dels_trans (Same.dels_upd (dels_mono (p := p) (by simp) s5) (by simp)) (Same.to_dels e7)) ⟨xs ++ [r], left - r, _, rfl, by simp [hxl], fun x hx => ?_, ?_, by omega, l6.up e7, V6.up e7⟩
    · rcases List.mem_append.mp hx with hx | hx
      · exact hx0 x hx
      · rw [List.mem_singleton.mp hx]; exact r0
    · rw [List.sum_append]; simp; omega
  · rintro σ' H' s' ⟨xs, left, x4, rfl, hxl, hx0, hsum, hl0, l3, V3⟩
    match xs, hxl, hx0, hsum, l3 with
    | [x, y, z], _, hx0, hsum, l3 =>
      refine s_ret (ed_tuple (Eln.el (eln_cat (ds := [.int x, .int y, .int z]) (es := [.int left]) (by simp) (el_var rfl l3) (Eln.el (eln_lst (by show (1 : Nat) ≤ 100000; decide) (ea_cons (ed_varI rfl) ea_nil)))))) fun v H2 e2 tv => ?_
      refine q x y z left (hx0 x (by simp)) (hx0 y (by simp)) (hx0 z (by simp)) hl0 (by simp at hsum; omega) v H2 ?_ (V3.up e2) tv
      refine fun b o hb => e2 b o (s' b o ?_)
      by_cases hbp : b = p
      · rw [dels_none (by simp [hbp])] at hb; cases hb
      · rw [dels_some (by simpa using hbp)] at hb
        have hb1 := e1 b o hb
        by_cases hba : b = a
        · rw [hba, han] at hb; cases hb
        · rw [dels_some (by simp [hbp, hba])]; exact hb1⟩
end
end WS
/-! WsS: lines, listed, content. -/
namespace WS
open PySem PySem.Spec PyProof.Rows L2
theorem ws_count {X : Cx} {K : PySem.W.Frag} {o e : Expr} {to : TE} {t : TA} {apos cpos : Pos} (hK : X.K = K) (ho : PE X o to) (ha : PA X [e] t)
    (hbase : attributeBase o "count" X.env (eval o X.env) = eval o X.env := by rfl)
    (hfew : ((backTo cpos (starEach [e] X.env)).all (fun x => !x.1) && (backToKw cpos (keywordEach [] X.env)).all (fun x => x.1.isSome)
      && decide ([e].length + ([] : List Keyword).length + (if ([] : List Keyword).isEmpty then 0 else 1) < 30)) = true := by rfl)
    (hline : (apos.endLine == cpos.line) = true := by rfl) (hs : starEach [e] X.env = (false, eval e X.env) :: starEach [] X.env := by rfl) (hplain : (backTo cpos (starEach [] X.env)).any (·.1) = false := by rfl) :
    PE X (.Call (.Attribute o "count" apos) [e] [] cpos) (tBM K "list" (rCntI K) to t) := by
  subst hK
  exact pe_bm PySem.F.plainAttrs_list PySem.F.slot_list_count PySem.F.type_list_count mt_lcount ho ha hbase hfew hline hs hplain
/-! ### the mirrors -/
def lnLeast (above line : List Int) (c : Nat) : Int := max (if line = [] then 1 else line.getLastD 0) (if above = [] then 1 else above.getD c 0 + 1)
def lnAdd (above : List Int) (c : Nat) (line : List Int) : List (List Int) := (List.range (4 + 1 - lnLeast above line c).toNat).map fun (k : Nat) => line ++ [lnLeast above line c + (k : Int)]
def lnUp (above : List Int) : Nat → List (List Int)
  | 0 => [[]]
  | c + 1 => (lnUp above c).flatMap (lnAdd above c)
structure LnOk (c : Nat) (layer : List (List Int)) : Prop where
  num : layer.length ≤ 4 ^ c
  len : ∀ l ∈ layer, l.length = c
  ent : ∀ l ∈ layer, ∀ n ∈ l, 1 ≤ n ∧ n ≤ 4
def AbOk (above : List Int) : Prop := ∀ n ∈ above, 1 ≤ n ∧ n ≤ 4
theorem last_mem {l : List Int} (h : l ≠ []) : l.getLastD 0 ∈ l := by
  rcases List.eq_nil_or_concat l with rfl | ⟨ini, a, rfl⟩
  · exact absurd rfl h
  · rw [List.concat_eq_append]; simp
theorem least_ok {above line : List Int} {c : Nat} (ha : AbOk above) (hl : ∀ n ∈ line, 1 ≤ n ∧ n ≤ 4) (hc : above = [] ∨ c < above.length) : 1 ≤ lnLeast above line c ∧ lnLeast above line c ≤ 5 := by
  unfold lnLeast
  have h1 : (if line = [] then (1 : Int) else line.getLastD 0) ≤ 4 ∧ 1 ≤ (if line = [] then (1 : Int) else line.getLastD 0) := by
    split
    · omega
    · rename_i h; have := hl _ (last_mem h); omega
  have h2 : (if above = [] then (1 : Int) else above.getD c 0 + 1) ≤ 5 := by
    split
    · omega
    · rename_i h
      rcases hc with hc | hc
      · exact absurd hc h
      · have := ha (above.getD c 0) (by simp [List.getD, hc])
        omega
  omega
theorem ln_ok {above : List Int} (ha : AbOk above) : ∀ c, (above = [] ∨ c ≤ above.length) → LnOk c (lnUp above c)
  | 0, _ => ⟨by simp [lnUp], by simp [lnUp], by simp [lnUp]⟩
  | c + 1, hc => by
    have p := ln_ok ha c (hc.imp id fun h => by omega)
    have lo : ∀ l ∈ lnUp above c, 1 ≤ lnLeast above l c ∧ lnLeast above l c ≤ 5 := fun l hl => least_ok ha (p.ent l hl) (hc.imp id fun h => by omega)
    refine ⟨?_, fun l' hl' => ?_, fun l' hl' n hn => ?_⟩
    · have := fm_le (f := lnAdd above c) (l := lnUp above c) (c := 4) fun l hl => by
        unfold lnAdd
        rw [List.length_map, List.length_range]
        have := lo l hl
        omega
      rw [Nat.pow_succ]
      exact Nat.le_trans this (Nat.mul_le_mul_right _ p.num)
    · obtain ⟨l, hl, h2⟩ := List.mem_flatMap.mp hl'
      obtain ⟨k, hk, rfl⟩ := List.mem_map.mp h2
      simp [p.len l hl]
    · obtain ⟨l, hl, h2⟩ := List.mem_flatMap.mp hl'
      obtain ⟨k, hk, rfl⟩ := List.mem_map.mp h2
      have := List.mem_range.mp hk
      have := lo l hl
      rcases List.mem_append.mp hn with hn | hn
      · exact p.ent l hl n hn
      · rw [List.mem_singleton.mp hn]; omega
def lsAdd (part : Int) (rows : List (List Int)) : List (List (List Int)) := (lnUp (rows.getLastD []) part.toNat).map fun line => rows ++ [line]
def lsUp (form : List Int) : Nat → List (List (List Int))
  | 0 => [[]]
  | i + 1 => (lsUp form i).flatMap (lsAdd (form.getD i 0))
def listed (form : List Int) : List (List (List Int)) := lsUp form form.length
def content (rows : List (List Int)) : List Int := (List.range 4).map fun (j : Nat) => ((rows.flatten.count (1 + (j : Int)) : Nat) : Int)
structure LsOk (form : List Int) (i : Nat) (found : List (List (List Int))) : Prop where
  num : found.length ≤ 4 ^ (form.take i).sum.toNat
  len : ∀ rs ∈ found, rs.length = i
  ent : ∀ rs ∈ found, ∀ r ∈ rs, AbOk r
  row : ∀ rs ∈ found, ∀ r ∈ rs, r.length ≤ 6
  last : ∀ rs ∈ found, rs ≠ [] → (rs.getLastD []).length = (form.getD (i - 1) 0).toNat
theorem lastR_mem {l : List (List Int)} (h : l ≠ []) : l.getLastD [] ∈ l := by
  rcases List.eq_nil_or_concat l with rfl | ⟨ini, a, rfl⟩
  · exact absurd rfl h
  · rw [List.concat_eq_append]; simp
theorem shOk_desc {ns : List Int} (h : shOk ns = true) {j : Nat} (hj : j + 1 < ns.length) : ns.getD (j + 1) 0 ≤ ns.getD j 0 := by
  simp only [shOk, Bool.and_eq_true, decide_eq_true_eq, List.all_eq_true, List.mem_range] at h
  exact h.2 j (by omega)
theorem above_ok {form : List Int} (h : shOk form = true) {i : Nat} (hi : i < form.length) {found : List (List (List Int))} (p : LsOk form i found) {rs : List (List Int)} (hr : rs ∈ found) :
    AbOk (rs.getLastD []) ∧ (rs.getLastD [] = [] ∨ (form.getD i 0).toNat ≤ (rs.getLastD []).length) := by
  by_cases hn : rs = []
  · subst hn
    exact ⟨fun n hn => (by simp at hn), .inl rfl⟩
  · refine ⟨p.ent rs hr _ (lastR_mem hn), .inr ?_⟩
    rw [p.last rs hr hn]
    have hl := p.len rs hr
    have : 0 < rs.length := List.length_pos_iff.mpr hn
    have := shOk_desc h (j := i - 1) (by omega)
    rw [show i - 1 + 1 = i by omega] at this
    omega
theorem ls_ok {form : List Int} (h : shOk form = true) : ∀ i, i ≤ form.length → LsOk form i (lsUp form i)
  | 0, _ => ⟨by simp [lsUp], by simp [lsUp], by simp [lsUp], by simp [lsUp], by simp [lsUp]⟩
  | i + 1, hi => by
    have p := ls_ok h i (by omega)
    have sm := shOk_small h
    have at_ := sm.at i
    have st := sum_take' (sh := form) (i := i) (by omega)
    have tn := take_nn sm.nn i
    have key : ∀ rs' ∈ lsUp form (i + 1), ∃ rs ∈ lsUp form i, ∃ line ∈ lnUp (rs.getLastD []) (form.getD i 0).toNat, rs' = rs ++ [line] := fun rs' hm => by
      obtain ⟨rs, h1, h2⟩ := List.mem_flatMap.mp hm
      obtain ⟨line, h3, h4⟩ := List.mem_map.mp h2
      exact ⟨rs, h1, line, h3, h4.symm⟩
    have lk : ∀ rs ∈ lsUp form i, LnOk (form.getD i 0).toNat (lnUp (rs.getLastD []) (form.getD i 0).toNat) := fun rs hr => by
      obtain ⟨a1, a2⟩ := above_ok h (by omega) p hr
      exact ln_ok a1 _ a2
    refine ⟨?_, fun rs' hm => ?_, fun rs' hm r hr => ?_, fun rs' hm r hr => ?_, fun rs' hm hne => ?_⟩
    · have := fm_le (f := lsAdd (form.getD i 0)) (l := lsUp form i) (c := 4 ^ (form.getD i 0).toNat) fun rs hr => by
        unfold lsAdd
        rw [List.length_map]
        exact (lk rs hr).num
      refine Nat.le_trans this ?_
      rw [st, Int.toNat_add tn at_.1, Nat.pow_add]
      exact Nat.mul_le_mul_right _ p.num
    · obtain ⟨rs, h1, line, h2, rfl⟩ := key rs' hm
      simp [p.len rs h1]
    · obtain ⟨rs, h1, line, h2, rfl⟩ := key rs' hm
      rcases List.mem_append.mp hr with hr | hr
      · exact p.ent rs h1 r hr
      · rw [List.mem_singleton.mp hr]; exact fun n hn => (lk rs h1).ent line h2 n hn
    · obtain ⟨rs, h1, line, h2, rfl⟩ := key rs' hm
      rcases List.mem_append.mp hr with hr | hr
      · exact p.row rs h1 r hr
      · rw [List.mem_singleton.mp hr, (lk rs h1).len line h2]; omega
    · obtain ⟨rs, h1, line, h2, rfl⟩ := key rs' hm
      rw [show (rs ++ [line]).getLastD [] = line by simp, (lk rs h1).len line h2]
      simp
theorem ls_num {form : List Int} (h : shOk form = true) {i : Nat} (hi : i ≤ form.length) : (lsUp form i).length ≤ 4096 := by
  have p := ls_ok h i hi
  have sm := shOk_small h
  have h1 : (form.take i).sum ≤ 6 := by
    have e : form.sum = (form.take i).sum + (form.drop i).sum := by rw [← List.sum_append, List.take_append_drop]
    have := nn_sum (l := form.drop i) fun n hn => sm.nn n (List.mem_of_mem_drop hn)
    have := sm.sum
    omega
  exact Nat.le_trans p.num (Nat.le_trans (Nat.pow_le_pow_right (by decide) (show (form.take i).sum.toNat ≤ 6 by omega)) (by decide))
section
variable {P : Program} {w : World} {K : PySem.W.Frag} {mg : PySem.Str → Option Value} {base : Heap}
theorem ed_lastR {σ : L2.St} {H : Hp} {te : TE} {l : List (List Int)} (hl : l ≠ []) (h : Ed te σ H (pR l)) : Ed (tOp (rIxT K) te (tUn (rU fun i => .int (-i)) (tC (.int 1)))) σ H (pT (l.getLastD [])) := by
  refine ed_ixT h (ed_neg ed_int) ?_
  rcases List.eq_nil_or_concat l with rfl | ⟨ini, a, rfl⟩
  · exact absurd rfl hl
  · rw [List.concat_eq_append, List.map_append, List.map_singleton]
    have : (ini ++ [a]).getLastD [] = a := by simp
    rw [this]
    exact atI_last
abbrev s__law_lines : Stmt := topS 61
abbrev N__law_lines : List PySem.Str := ["_law_part", "_law_top_here", "_law_above", "_law_layer", "_law_c", "_law_later", "_law_line_here", "_law_least", "_law_letter_here"]
theorem sc__law_lines : FnScope N__law_lines ["_law_part", "_law_top_here", "_law_above"] (defScope s__law_lines) := ⟨rfl, rfl, rfl, by decide +kernel, rfl, by decide +kernel, by decide +kernel⟩
abbrev S_lines : Sp := Pr (fun i : Nat × List Int => [.int (i.1 : Int), .int 4, pT i.2]) (fun i => i.1 ≤ 6 ∧ AbOk i.2 ∧ (i.2 = [] ∨ i.1 ≤ i.2.length)) (fun i => Li ((lnUp i.2 i.1).map pT))
theorem d_lines (B : Bt mg) (M : Md K mg "_law_lines" s__law_lines) : Dv P w K mg base "_law_lines" 1 ["_law_part", "_law_top_here", "_law_above"] S_lines :=
  dv_pr M sc__law_lines (fun _ _ _ _ _ _ us hl => match us, hl with | [_, _, _], _ => rfl) (fun _ => rfl) fun f cdv A outer s H E hr => ⟨_,
(pss_cons (ps_set (i := 3) sc__law_lines.nd rfl (.inl rfl) (pe_lst (pa_cons (pe_tup pa_nil) pa_nil)))
  (pss_cons (ps_for PassesOwn.never rfl (pi_range1 (by rfl) B.b_range (pa_cons (pv 0) pa_nil)) (pg_name (i := 4) sc__law_lines.nd rfl (.inl rfl))
  (pss_cons (ps_set (i := 5) sc__law_lines.nd rfl (.inl rfl) (pe_lst pa_nil))
  (pss_cons (ps_for PassesOwn.never rfl (pi_list (pv 3)) (pg_name (i := 6) sc__law_lines.nd rfl (.inr rfl))
  (pss_cons (ps_set (i := 7) sc__law_lines.nd rfl (.inl rfl) (pe_callB (call_max2 rfl) (by rfl) B.b_max (by decide +kernel) (pa_cons (pe_ifExp (pt_cmpR (r := rNeD K) (op_neD hr.units) (pv 6) (pe_tup pa_nil) (nomark _)) (pe_ix (r := rIxT K) ix_tup (pv 6) (pe_un un_neg pe_int) (fun _ _ => rfl)) pe_int) (pa_cons (pe_ifExp (pt_cmpR (r := rNeD K) (op_neD hr.units) (pv 2) (pe_tup pa_nil) (nomark _)) (pe_op op_add (pe_ix (r := rIxT K) ix_tup (pv 2) (pv 4) (fun _ _ => rfl)) pe_int) pe_int) pa_nil))))
  (pss_one (ps_set (i := 5) sc__law_lines.nd rfl (.inl rfl) (pe_op op_cat (pv 5) (pe_lc (own := [("_law_letter_here", 8)]) rfl sc__law_lines.nd (pi_range2 (by rfl) B.b_range (pa_cons (pv 7) (pa_cons (pe_op op_add (pv 1) pe_int) pa_nil))) (blkOk_by (own := [("_law_letter_here", 8)]) (N := N__law_lines) (sc := defScope s__law_lines) (by decide +kernel)) (fun _ _ _ _ _ => (pg_name (i := 8) sc__law_lines.nd rfl (Or.inl rfl))) (fun _ _ _ _ _ => pts_nil) (fun _ _ _ _ _ => (pe_op (r := rCatA K) op_catA (pv 6) (pe_tup (pa_cons (pv 8) pa_nil))))))))))
  (pss_one (ps_set (i := 3) sc__law_lines.nd rfl (.inl rfl) (pv 5))))))
  (pss_one (ps_ret (pv 3))))), fun ⟨part, above⟩ vs t ⟨hp6, hab, hlen⟩ => by
  obtain ⟨v, w, z, rfl, h1, h2, h3⟩ := tpa3 t
  simp only at h1 h2 h3 hp6 hab hlen
  cases Tp.ofInt h1
  cases Tp.ofInt h2
  intro Q q
  have pow6 : ∀ c : Nat, c ≤ 6 → 4 ^ c ≤ 4096 := fun c hc => Nat.le_trans (Nat.pow_le_pow_right (by decide) hc) (by decide)
  refine q_set (P := Li ((lnUp above 0).map pT)) (Eln.el (eln_lst (ds := [pT []]) (by show (1 : Nat) ≤ 100000; decide) (ea_cons (ed_tup (ds := []) (by show (0 : Nat) ≤ 100000; decide) ea_nil) ea_nil))) fun x3 H1 e1 l1 => ?_
  obtain ⟨q0, rfl, l1⟩ := l1
  refine q_for (Ei.of (its := List.range part) (by have := ei_rng1 (j := (part : Int)) (ok := any) (σ := (L2.start N__law_lines [.int (part : Int), .int 4, z]).set 3 (some (.ref q0))) (H := H1) (te := tVar 0) (by omega) (ed_varI rfl); rw [Int.toNat_natCast] at this; exact this)) (fun i σ' H' => ∃ q x4 x5 x6 x7, σ' = [some (.int (part : Int)), some (.int 4), some z, some (.ref q), x4, x5, x6, x7, none] ∧ Ls H' q ((lnUp above i).map pT)) (fun H' e' => ⟨q0, none, none, none, none, rfl, l1.up e'⟩) ?_ ?_
  · rintro i r hi x σ1 H3 H4 s3 ⟨qa, x4, x5, x6, x7, rfl, lq⟩ s4 tx Nx n
    obtain ⟨rfl, hir⟩ := range_at hi
    cases Tp.ofInt tx
    have ok := ln_ok hab r (hlen.imp id fun h => by omega)
    have ok' := ln_ok hab (r + 1) (hlen.imp id fun h => by omega)
    have b := (e1.trans s3).trans s4
    refine q_set (P := Li []) (Eln.el (eln_lst (ds := []) (by decide) ea_nil)) fun x5' H5 e5 l5 => ?_
    obtain ⟨q5, rfl, l5⟩ := l5
    refine q_for (its := lnUp above r) (Ei.of (g := pT) (ei_list (el_var rfl ((lq.up s4).up e5)))) (fun j σ' H' => ∃ q5 x6 x7, σ' = [some (.int (part : Int)), some (.int 4), some z, some (.ref qa), some (.int (r : Int)), some (.ref q5), x6, x7, none] ∧ Ls H' q5 ((((lnUp above r).take j).flatMap (lnAdd above r)).map pT)) (fun H' e' => ⟨q5, x6, x7, rfl, l5.up e'⟩) ?_ ?_
    · rintro j line hj x' σ1 H6 H7 s6 ⟨q5, x6, x7, rfl, lq6⟩ s7 tl Nx2 n2
      have hlm : line ∈ lnUp above r := List.mem_of_getElem? hj
      have lo := least_ok (c := r) hab (ok.ent line hlm) (hlen.imp id fun h => by omega)
      have b7 := ((b.trans e5).trans s6).trans s7
      have hT : Ed (tCB (fun xs H Q => ∃ i j, xs = [.int i, .int j] ∧ Q (.int (if j > i then j else i)) H) (tCons (tIf (tTest (tOp (rNeD K) (tVar 6) (tTup tNil))) (tOp (rIxT K) (tVar 6) (tUn (rU fun i => .int (-i)) (tC (.int 1)))) (tC (.int 1))) (tCons (tIf (tTest (tOp (rNeD K) (tVar 2) (tTup tNil))) (tOp (rI0 fun i j => .int (i + j)) (tOp (rIxT K) (tVar 2) (tVar 4)) (tC (.int 1))) (tC (.int 1))) tNil))) [some (.int (part : Int)), some (.int 4), some z, some (.ref qa), some (.int (r : Int)), some (.ref q5), some x', x7, none] H7 (.int (lnLeast above line r)) := by
        refine ed_max (em_if (b := !decide (line = [])) (et_test (ed_neT (b := []) (ed_var rfl tl) (ed_tup (ds := []) (by show (0 : Nat) ≤ 100000; decide) ea_nil))) (fun y => ?_) fun y => ?_) (em_if (b := !decide (above = [])) (et_test (ed_neT (b := []) (ed_var rfl (h3.up b7)) (ed_tup (ds := []) (by show (0 : Nat) ≤ 100000; decide) ea_nil))) (fun y => ?_) fun y => ?_)
        · have y : line ≠ [] := by simpa using y
          rw [if_neg y]
          exact ed_last y (ed_var rfl tl)
        · have y : line = [] := by simpa using y
          rw [if_pos y]
          exact ed_int
        · have y : above ≠ [] := by simpa using y
          rw [if_neg y]
          refine ed_add (ed_ixT (ed_var rfl (h3.up b7)) (ed_varI rfl) (getD_at ?_)) ed_int
          rcases hlen with h | h
          · exact absurd h y
          · omega
        · have y : above = [] := by simpa using y
          rw [if_pos y]
          exact ed_int
      refine q_set hT fun x7' H8 e8 t8 => ?_
      cases Tp.ofInt t8
      have lcx : Eln (tLc (iRng2 (tCons (tVar 7) (tCons (tOp (rI0 fun i j => .int (i + j)) (tVar 1) (tC (.int 1))) tNil))) (gName 8) tYes (tOp (rCatA K) (tVar 6) (tTup (tCons (tVar 8) tNil))) [8]) [some (.int (part : Int)), some (.int 4), some z, some (.ref qa), some (.int (r : Int)), some (.ref q5), some x', some (.int (lnLeast above line r)), none] H8 ((lnAdd above r line).map pT) := by
        refine eln_is (eln_map (its := List.range (4 + 1 - lnLeast above line r).toNat) (fun k => pT (line ++ [lnLeast above line r + (k : Int)])) (by rw [List.length_range]; omega) (Ei.of (ei_rng2 (by omega) (by omega) (ed_varI rfl) (ed_add (ed_varI rfl) ed_int))) fun k hk x'' H10 e10 tk => hb_name rfl ?_) (by unfold lnAdd; rw [List.map_map]; rfl)
        exact ed_is (ed_cat (ds := line.map .int) (es := [.int (lnLeast above line r + (k : Int))]) (by rw [List.length_map, ok.len line hlm]; simp; omega) (ed_var rfl (Tp.up tl (e8.trans e10))) (ed_tup (by show (1 : Nat) ≤ 100000; decide) (ea_cons (ed_var rfl tk) ea_nil))) (by simp [pT])
      have hbig : (((lnUp above r).take (j + 1)).flatMap (lnAdd above r)).length ≤ 4096 := Nat.le_trans fm_take (Nat.le_trans ok'.num (pow6 _ (by omega)))
      have hsplit : ((lnUp above r).take (j + 1)).flatMap (lnAdd above r) = ((lnUp above r).take j).flatMap (lnAdd above r) ++ lnAdd above r line := by rw [take_succ' hj, List.flatMap_append]; simp
      refine s_setN (eln_cat (ds := (((lnUp above r).take j).flatMap (lnAdd above r)).map pT) ?_ (el_var rfl ((lq6.up s7).up e8)) (Eln.el lcx)) fun p' H10 hp' e10 l10 => n2 _ H10 (e8.trans e10) ⟨p', _, _, rfl, ?_⟩
      · rw [hsplit, List.length_append] at hbig
        rw [List.length_map, List.length_map]
        omega
      · rw [hsplit, List.map_append]
        exact l10
    · rintro σ' H' s' ⟨q5, x6, x7, rfl, lq'⟩
      rw [List.take_length] at lq'
      refine s_set (P := fun v _ => v = .ref q5) (em_var rfl (fun _ _ _ _ h => h) rfl) fun z' H'' e'' ez => ?_
      subst ez
      exact n _ H'' ((e5.trans s').trans e'') ⟨q5, _, _, _, _, rfl, lq'.up e''⟩
  · rintro σ' H' s' ⟨qa, x4, x5, x6, x7, rfl, lq⟩
    rw [List.length_range] at lq
    exact s_ret (el_var rfl lq) fun z' H2 e2 p => q z' H2 ((e1.trans s').trans e2) p⟩
abbrev s__law_listed : Stmt := topS 62
abbrev N__law_listed : List PySem.Str := ["_law_form_here", "_law_top_here", "_law_found", "_law_part", "_law_later", "_law_lines_here", "_law_above", "_law_line_here"]
theorem sc__law_listed : FnScope N__law_listed ["_law_form_here", "_law_top_here"] (defScope s__law_listed) := ⟨rfl, rfl, rfl, by decide +kernel, rfl, by decide +kernel, by decide +kernel⟩
abbrev S_listed : Sp := Pr (fun form : List Int => [pT form, .int 4]) (fun form => shOk form = true) (fun form => Li ((listed form).map pR))
theorem d_listed (B : Bt mg) (D__law_lines : Dv P w K mg base "_law_lines" 1 ["_law_part", "_law_top_here", "_law_above"] S_lines) (M : Md K mg "_law_listed" s__law_listed) : Dv P w K mg base "_law_listed" 2 ["_law_form_here", "_law_top_here"] S_listed :=
  dv_pr M sc__law_listed (fun _ _ _ _ _ _ us hl => match us, hl with | [_, _], _ => rfl) (fun _ => rfl) fun f cdv A outer s H E hr => ⟨_,
(pss_cons (ps_set (i := 2) sc__law_listed.nd rfl (.inl rfl) (pe_lst (pa_cons (pe_tup pa_nil) pa_nil)))
  (pss_cons (ps_for PassesOwn.never rfl (pi_tup (pv 0)) (pg_name (i := 3) sc__law_listed.nd rfl (.inl rfl))
  (pss_cons (ps_set (i := 4) sc__law_listed.nd rfl (.inl rfl) (pe_lst pa_nil))
  (pss_cons (ps_for PassesOwn.never rfl (pi_list (pv 2)) (pg_name (i := 5) sc__law_listed.nd rfl (.inr rfl))
  (pss_cons (ps_set (i := 6) sc__law_listed.nd rfl (.inl rfl) (pe_ifExp (pt_cmpR (r := rNeD K) (op_neD hr.units) (pv 5) (pe_tup pa_nil) (nomark _)) (pe_ix (r := rIxT K) ix_tup (pv 5) (pe_un un_neg pe_int) (fun _ _ => rfl)) (pe_tup pa_nil)))
  (pss_one (ps_set (i := 4) sc__law_listed.nd rfl (.inl rfl) (pe_op op_cat (pv 4) (pe_lc (own := [("_law_line_here", 7)]) rfl sc__law_listed.nd (pi_list (pe_cd D__law_lines (hr.mono (by decide)) (by rfl) (pa_cons (pv 3) (pa_cons (pv 1) (pa_cons (pv 6) pa_nil))))) (blkOk_by (own := [("_law_line_here", 7)]) (N := N__law_listed) (sc := defScope s__law_listed) (by decide +kernel)) (fun _ _ _ _ _ => (pg_name (i := 7) sc__law_listed.nd rfl (Or.inl rfl))) (fun _ _ _ _ _ => pts_nil) (fun _ _ _ _ _ => (pe_op (r := rCatA K) op_catA (pv 5) (pe_tup (pa_cons (pv 7) pa_nil))))))))))
  (pss_one (ps_set (i := 2) sc__law_listed.nd rfl (.inl rfl) (pv 4))))))
  (pss_one (ps_ret (pv 2))))), fun form vs t hok => by
  obtain ⟨v, w, rfl, h1, h2⟩ := tpa2 t
  cases Tp.ofInt h2
  have sm := shOk_small hok
  intro Q q
  refine q_set (P := Li ((lsUp form 0).map pR)) (Eln.el (eln_lst (ds := [pR []]) (by show (1 : Nat) ≤ 100000; decide) (ea_cons (ed_tup (ds := []) (by show (0 : Nat) ≤ 100000; decide) ea_nil) ea_nil))) fun x3 H1 e1 l1 => ?_
  obtain ⟨q0, rfl, l1⟩ := l1
  refine q_for (its := form) (Ei.of (g := PyData.int) (ei_tup (ed_var rfl (h1.up e1)))) (fun i σ' H' => ∃ q x3 x4 x5 x6, σ' = [some v, some (.int 4), some (.ref q), x3, x4, x5, x6, none] ∧ Ls H' q ((lsUp form i).map pR)) (fun H' e' => ⟨q0, none, none, none, none, rfl, l1.up e'⟩) ?_ ?_
  · rintro i part hi x σ1 H3 H4 s3 ⟨qa, x3, x4, x5, x6, rfl, lq⟩ s4 tx Nx n
    cases Tp.ofInt tx
    have hil : i < form.length := (List.getElem?_eq_some_iff.mp hi).1
    have hpart : form.getD i 0 = part := by rw [List.getD, hi]; rfl
    have hat := sm.at i
    rw [hpart] at hat
    have ok := ls_ok hok i (by omega)
    have hnum := ls_num hok (i := i + 1) hil
    refine q_set (P := Li []) (Eln.el (eln_lst (ds := []) (by decide) ea_nil)) fun x5' H5 e5 l5 => ?_
    obtain ⟨q4, rfl, l5⟩ := l5
    refine q_for (its := lsUp form i) (Ei.of (g := pR) (ei_list (el_var rfl ((lq.up s4).up e5)))) (fun j σ' H' => ∃ q4 x5 x6, σ' = [some v, some (.int 4), some (.ref qa), some (.int part), some (.ref q4), x5, x6, none] ∧ Ls H' q4 ((((lsUp form i).take j).flatMap (lsAdd part)).map pR)) (fun H' e' => ⟨q4, x5, x6, rfl, l5.up e'⟩) ?_ ?_
    · rintro j rows hj x' σ1 H6 H7 s6 ⟨q4, x5, x6, rfl, lq6⟩ s7 tl Nx2 n2
      have hrm : rows ∈ lsUp form i := List.mem_of_getElem? hj
      obtain ⟨a1, a2⟩ := above_ok hok hil ok hrm
      rw [hpart] at a2
      refine q_set (P := Dt (pT (rows.getLastD []))) (em_if (b := !decide (rows = [])) (et_test (ed_is (ed_neD (d2 := pR []) (ed_var rfl tl) (ed_tup (ds := []) (by show (0 : Nat) ≤ 100000; decide) ea_nil) (shaped_R rows) (shaped_R [])) (by rw [eqv_R]))) (fun y => ?_) fun y => ?_) fun x6' H8 e8 t8 => ?_
      · have y : rows ≠ [] := by simpa using y
        exact ed_lastR y (ed_var rfl tl)
      · have y : rows = [] := by simpa using y
        subst y
        exact ed_tup (ds := []) (by show (0 : Nat) ≤ 100000; decide) ea_nil
      have lcx : Eln (tLc (iList K (tCall S_lines [] E0 (tCons (tVar 3) (tCons (tVar 1) (tCons (tVar 6) tNil))))) (gName 7) tYes (tOp (rCatA K) (tVar 5) (tTup (tCons (tVar 7) tNil))) [7]) [some v, some (.int 4), some (.ref qa), some (.int part), some (.ref q4), some x', some x6', none] H8 ((lsAdd part rows).map pR) := by
        refine eln_is (eln_map (its := lnUp (rows.getLastD []) part.toNat) (fun line => pR (rows ++ [line])) ?_ (Ei.of (g := pT) (ei_list (em_call (part.toNat, rows.getLastD []) ⟨by simp only; omega, a1, a2⟩ (ea_cons (ed_is (d := .int part) (ed_varI rfl) (by simp only; rw [Int.toNat_of_nonneg hat.1])) (ea_cons (ed_varI rfl) (ea_cons (ed_var rfl t8) ea_nil)))))) fun line hl x'' H10 e10 tk => hb_name rfl ?_) (by unfold lsAdd; rw [List.map_map]; rfl)
        · exact Nat.le_trans (ln_ok a1 _ a2).num (Nat.le_trans (Nat.pow_le_pow_right (by decide) (show part.toNat ≤ 6 by omega)) (by decide))
        · exact ed_is (ed_cat (ds := rows.map pT) (es := [pT line]) (by rw [List.length_map, ok.len rows hrm]; have := sm.len; simp; omega) (ed_var rfl (Tp.up tl (e8.trans e10))) (ed_tup (by show (1 : Nat) ≤ 100000; decide) (ea_cons (ed_var rfl tk) ea_nil))) (by simp [pR])
      have hstep : lsUp form (i + 1) = (lsUp form i).flatMap (lsAdd part) := by rw [← hpart]; rfl
      rw [hstep] at hnum
      have hbig : (((lsUp form i).take (j + 1)).flatMap (lsAdd part)).length ≤ 4096 := Nat.le_trans fm_take hnum
      have hsplit : ((lsUp form i).take (j + 1)).flatMap (lsAdd part) = ((lsUp form i).take j).flatMap (lsAdd part) ++ lsAdd part rows := by rw [take_succ' hj, List.flatMap_append]; simp
      refine s_setN (eln_cat (ds := (((lsUp form i).take j).flatMap (lsAdd part)).map pR) ?_ (el_var rfl ((lq6.up s7).up e8)) (Eln.el lcx)) fun p' H10 hp' e10 l10 => n2 _ H10 (e8.trans e10) ⟨p', _, _, rfl, ?_⟩
      · rw [hsplit, List.length_append] at hbig
        rw [List.length_map, List.length_map]
        omega
      · rw [hsplit, List.map_append]
        exact l10
    · rintro σ' H' s' ⟨q4, x5, x6, rfl, lq'⟩
      rw [List.take_length] at lq'
      refine s_set (P := fun v _ => v = .ref q4) (em_var rfl (fun _ _ _ _ h => h) rfl) fun z' H'' e'' ez => ?_
      subst ez
      refine n _ H'' ((e5.trans s').trans e'') ⟨q4, _, _, _, _, rfl, ?_⟩
      have hstep : lsUp form (i + 1) = (lsUp form i).flatMap (lsAdd part) := by rw [← hpart]; rfl
      rw [hstep]
      exact lq'.up e''
  · rintro σ' H' s' ⟨qa, x3, x4, x5, x6, rfl, lq⟩
    exact s_ret (el_var rfl lq) fun z' H2 e2 p => q z' H2 ((e1.trans s').trans e2) p⟩
abbrev s__law_content : Stmt := topS 63
abbrev N__law_content : List PySem.Str := ["_law_lines_here", "_law_many", "_law_letters", "_law_line_here", "_law_k"]
theorem sc__law_content : FnScope N__law_content ["_law_lines_here", "_law_many"] (defScope s__law_content) := ⟨rfl, rfl, rfl, by decide +kernel, rfl, by decide +kernel, by decide +kernel⟩
abbrev S_content : Sp := Pr (fun rows : List (List Int) => [pR rows, .int 4]) (fun rows => rows.length ≤ 6 ∧ ∀ r ∈ rows, r.length ≤ 6) (fun rows => Dt (pT (content rows)))
theorem flat_len : ∀ {rows : List (List Int)}, (∀ r ∈ rows, r.length ≤ 6) → rows.flatten.length ≤ rows.length * 6
  | [], _ => by simp
  | a :: r, h => by
    rw [List.flatten_cons, List.length_append, List.length_cons, Nat.succ_mul]
    have := h a (by simp)
    have := flat_len (rows := r) fun x hx => h x (by simp [hx])
    omega
theorem d_content (B : Bt mg) (M : Md K mg "_law_content" s__law_content) : Dv P w K mg base "_law_content" 1 ["_law_lines_here", "_law_many"] S_content :=
  dv_pr M sc__law_content (fun _ _ _ _ _ _ us hl => match us, hl with | [_, _], _ => rfl) (fun _ => rfl) fun f cdv A outer s H E hr => ⟨_,
(pss_cons (ps_set (i := 2) sc__law_content.nd rfl (.inr rfl) (pe_lst pa_nil))
  (pss_cons (ps_for PassesOwn.never rfl (pi_tup (pv 0)) (pg_name (i := 3) sc__law_content.nd rfl (.inl rfl))
  (pss_one (ps_set (i := 2) sc__law_content.nd rfl (.inr rfl) (pe_op op_cat (pv 2) (pe_callTy (r := rListQ K) call_list_of (by rfl) B.b_list (by decide +kernel) (pa_cons (pv 3) pa_nil))))))
  (pss_one (ps_ret (pe_callTy (r := rTupQ K) call_tuple_of (by rfl) B.b_tuple (by decide +kernel) (pa_cons (pe_lc (own := [("_law_k", 4)]) rfl sc__law_content.nd (pi_range2 (by rfl) B.b_range (pa_cons pe_int (pa_cons (pe_op op_add (pv 1) pe_int) pa_nil))) (blkOk_by (own := [("_law_k", 4)]) (N := N__law_content) (sc := defScope s__law_content) (by decide +kernel)) (fun _ _ _ _ _ => (pg_name (i := 4) sc__law_content.nd rfl (Or.inl rfl))) (fun _ _ _ _ _ => pts_nil) (fun _ _ _ _ _ => (ws_count (K := K) rfl (pv 2) (pa_cons (pv 4) pa_nil)))) pa_nil)))))), fun rows vs t ⟨hl6, hr6⟩ => by
  obtain ⟨v, w, rfl, h1, h2⟩ := tpa2 t
  cases Tp.ofInt h2
  intro Q q
  refine q_set (P := Li []) (Eln.el (eln_lst (ds := []) (by decide) ea_nil)) fun x2 H1 e1 l1 => ?_
  obtain ⟨q0, rfl, l1⟩ := l1
  have hflat := flat_len hr6
  refine q_for (its := rows) (Ei.of (g := pT) (ei_tup (ed_var rfl (h1.up e1)))) (fun i σ' H' => ∃ q x3, σ' = [some v, some (.int 4), some (.ref q), x3, none] ∧ Ls H' q (((rows.take i).flatten).map .int)) (fun H' e' => ⟨q0, none, rfl, l1.up e'⟩) ?_ ?_
  · rintro i row hi x σ1 H3 H4 s3 ⟨qa, x3, rfl, lq⟩ s4 tx Nx n
    have hsplit : (rows.take (i + 1)).flatten = (rows.take i).flatten ++ row := by rw [take_succ' hi, List.flatten_append]; simp
    have hle : ((rows.take (i + 1)).flatten).length ≤ 100000 := by
      have e : rows.flatten = (rows.take (i + 1)).flatten ++ (rows.drop (i + 1)).flatten := by rw [← List.flatten_append, List.take_append_drop]
      have := congrArg List.length e
      rw [List.length_append] at this
      omega
    rw [hsplit, List.length_append] at hle
    refine s_setN (eln_cat (ds := ((rows.take i).flatten).map .int) (es := row.map .int) (by rw [List.length_map, List.length_map]; omega) (el_var rfl (lq.up s4)) (Eln.el (eln_list (ed_var rfl tx)))) fun p' H10 hp' e10 l10 => n _ H10 e10 ⟨p', _, rfl, ?_⟩
    rw [hsplit, List.map_append]
    exact l10
  · rintro σ' H' s' ⟨qa, x3, rfl, lq⟩
    rw [List.take_length] at lq
    obtain ⟨xs, k1, k2⟩ := id lq
    refine s_ret (ed_tuple (Eln.el (eln_is (eln_map (its := List.range 4) (fun k => .int ((rows.flatten.count (1 + (k : Int)) : Nat) : Int)) (by decide) (Ei.of (its := List.range 4) (by have := ei_rng2 (i := 1) (j := 5) (ok := any) (σ := [some v, some (.int 4), some (.ref qa), x3, none]) (H := H') (te := tC (.int 1)) (tb := tOp (rI0 fun i j => .int (i + j)) (tVar 1) (tC (.int 1))) (by decide) (by decide) ed_int (ed_add (i := 4) (j := 1) (ed_varI rfl) ed_int); exact this)) fun k hk x'' H10 e10 tk => hb_name rfl ?_) (by unfold content; rw [List.map_map]; rfl)))) fun z' H2 e2 p => q z' H2 ((e1.trans s').trans e2) p
    cases Tp.ofInt tk
    exact fun H11 e11 Q q => ⟨_, rfl, .inl ⟨rfl, xs, .inl (.inl (e11 _ _ (e10 _ _ k1)))⟩, ⟨_, rfl, qa, rows.flatten, 1 + (k : Int), rfl, rfl, .inl (.inl (by rw [k2.ints] at k1; exact e11 _ _ (e10 _ _ k1))), q _ H11 (.refl _) (.int _)⟩⟩⟩
end
end WS
/-! WsT: the plain law. -/
namespace WS
open PySem PySem.Spec PyProof.Rows L2
/-! ### the sorted list of data is one -/
theorem toks_T : ∀ (a b : List Int) (l m : List (Int ⊕ List Nat)), PySem.W.keyToksAll (a.map PyData.int) ++ l = PySem.W.keyToksAll (b.map PyData.int) ++ m → a = b ∧ l = m
  | [], [], l, m, h => by simpa [PySem.W.keyToksAll] using h
  | [], y :: b, l, m, h => by simp [PySem.W.keyToksAll] at h
  | x :: a, [], l, m, h => by simp [PySem.W.keyToksAll] at h
  | x :: a, y :: b, l, m, h => by
    simp only [List.map_cons, PySem.W.keyToksAll, PySem.W.keyToks, List.cons_append, List.nil_append, List.cons.injEq, Sum.inl.injEq, true_and] at h
    obtain ⟨h1, h2⟩ := toks_T a b l m h.2
    exact ⟨by rw [h.1, h1], h2⟩
theorem toks_R : ∀ (a b : List (List Int)) (l m : List (Int ⊕ List Nat)), PySem.W.keyToksAll (a.map pT) ++ l = PySem.W.keyToksAll (b.map pT) ++ m → a = b ∧ l = m
  | [], [], l, m, h => by simpa [PySem.W.keyToksAll] using h
  | [], y :: b, l, m, h => by simp [PySem.W.keyToksAll] at h
  | x :: a, [], l, m, h => by simp [PySem.W.keyToksAll] at h
  | x :: a, y :: b, l, m, h => by
    simp only [List.map_cons, PySem.W.keyToksAll, pT, PySem.W.keyToks, List.cons_append, List.append_assoc, List.cons.injEq, true_and] at h
    obtain ⟨h1, h2⟩ := toks_T x y _ _ h
    obtain ⟨h3, h4⟩ := toks_R a b l m h2
    exact ⟨by rw [h1, h3], h4⟩
theorem toks_pR {a b : List (List Int)} (h : PySem.W.keyToks (pR a) = PySem.W.keyToks (pR b)) : a = b := by
  simp only [pR, PySem.W.keyToks] at h
  exact (toks_R a b [] [] (by rw [h])).1
theorem srt_perm {a b : List (List (List Int))} (h : a.Perm b) : srt (a.map pR) = srt (b.map pR) := by
  have p1 : (srt (a.map pR)).Perm (a.map pR) := List.mergeSort_perm _ _
  have p2 : (srt (b.map pR)).Perm (b.map pR) := List.mergeSort_perm _ _
  have hp : (srt (a.map pR)).Perm (srt (b.map pR)) := (p1.trans (h.map pR)).trans p2.symm
  have s1 := PySem.W.sort_pairwise (PySem.W.sortLe_total (listOrd itemOrd) false fun b : PyData => PySem.W.keyToks (id b)) (a.map pR)
  have s2 := PySem.W.sort_pairwise (PySem.W.sortLe_total (listOrd itemOrd) false fun b : PyData => PySem.W.keyToks (id b)) (b.map pR)
  refine hp.eq_of_pairwise (fun x y hx hy h1 h2 => ?_) s1 s2
  obtain ⟨r1, _, rfl⟩ := List.mem_map.mp (p1.mem_iff.mp hx)
  obtain ⟨r2, _, rfl⟩ := List.mem_map.mp (p2.mem_iff.mp hy)
  have h1' : (listOrd itemOrd).blt (PySem.W.keyToks (pR r2)) (PySem.W.keyToks (pR r1)) = false := by
    have : (!(listOrd itemOrd).blt (PySem.W.keyToks (pR r2)) (PySem.W.keyToks (pR r1))) = true := h1
    simpa using this
  have h2' : (listOrd itemOrd).blt (PySem.W.keyToks (pR r1)) (PySem.W.keyToks (pR r2)) = false := by
    have : (!(listOrd itemOrd).blt (PySem.W.keyToks (pR r1)) (PySem.W.keyToks (pR r2))) = true := h2
    simpa using this
  rw [toks_pR ((listOrd itemOrd).total _ _ h2' h1')]
/-! ### the pairs -/
def dueU (form sums : List Int) : List (List (List Int)) := (listed form).filter fun rs => decide (content rs = sums)
def insI (x : Int) : List Int → List Int
  | [] => [x]
  | y :: r => if y < x then y :: insI x r else x :: y :: r
def ascOf (sums : List Int) : List Int := (sums.filter fun n => decide (0 < n)).foldr insI []
def mix (r : Nat) : List Int → List Int
  | [x, y, z, l] => [x, y, z].take r ++ [l] ++ [x, y, z].drop r
  | s => s
def pairOk (form sums : List Int) : Bool :=
  (fun (due rf : List (List (List Int))) =>
    tabsOk form sums && rf.isPerm due && rf.all (fun t => decide ((t.map fun r => (r.length : Int)) = form)) && decide (tablesCounted form sums = some (due.length : Int)) &&
    (decide (due.length < 2) || due.all fun t => !t.isEmpty) && decide (due.length ≤ 90) && (List.range 4).all (fun r => decide (tablesCounted form (mix r sums) = some (due.length : Int))) && decide (tablesCounted form (sums ++ [0, 0]) = some (due.length : Int)) &&
    ascB (ascOf sums) && (ascOf sums).isPerm (sums.filter fun n => decide (0 < n)) && shOk (ascOf sums).reverse && decide ((ascOf sums).reverse.sum = form.sum) && (hv form (ascOf sums).reverse == decide (0 < due.length))) (dueU form sums) (rowsFilled form sums)
def comps (n : Nat) : List (List Int) :=
  (List.range (n + 1)).flatMap fun (a : Nat) => (List.range (n - a + 1)).flatMap fun (b : Nat) => (List.range (n - a - b + 1)).map fun (c : Nat) => [(a : Int), (b : Int), (c : Int), ((n - a - b - c : Nat) : Int)]
def sizeOk (n : Nat) : Bool := (formsU n).all fun form => shOk form && decide (form.sum = (n : Int)) && (comps n).all (pairOk form)
theorem size0 : sizeOk 0 = true := by decide +kernel
theorem size1 : sizeOk 1 = true := by decide +kernel
theorem size2 : sizeOk 2 = true := by decide +kernel
theorem size3 : sizeOk 3 = true := by decide +kernel
end WS
namespace WS
def formOk (n : Nat) (form : List Int) : Bool := shOk form && decide (form.sum = (n : Int)) && (comps n).all (pairOk form)
theorem sz4_0 : formOk 4 [4] = true := by decide +kernel
theorem sz4_1 : formOk 4 [2, 2] = true := by decide +kernel
theorem sz4_2 : formOk 4 [3, 1] = true := by decide +kernel
theorem sz4_3 : formOk 4 [2, 1, 1] = true := by decide +kernel
theorem sz4_4 : formOk 4 [1, 1, 1, 1] = true := by decide +kernel
theorem fms4 : formsU 4 = [[4], [2, 2], [3, 1], [2, 1, 1], [1, 1, 1, 1]] := by decide +kernel
theorem sz5_0 : formOk 5 [5] = true := by decide +kernel
theorem sz5_1 : formOk 5 [3, 2] = true := by decide +kernel
theorem sz5_2 : formOk 5 [4, 1] = true := by decide +kernel
theorem sz5_3 : formOk 5 [2, 2, 1] = true := by decide +kernel
theorem sz5_4 : formOk 5 [3, 1, 1] = true := by decide +kernel
theorem sz5_5 : formOk 5 [2, 1, 1, 1] = true := by decide +kernel
theorem sz5_6 : formOk 5 [1, 1, 1, 1, 1] = true := by decide +kernel
theorem fms5 : formsU 5 = [[5], [3, 2], [4, 1], [2, 2, 1], [3, 1, 1], [2, 1, 1, 1], [1, 1, 1, 1, 1]] := by decide +kernel
theorem sz6_0 : formOk 6 [6] = true := by decide +kernel
theorem sz6_1 : formOk 6 [3, 3] = true := by decide +kernel
theorem sz6_2 : formOk 6 [4, 2] = true := by decide +kernel
theorem sz6_3 : formOk 6 [5, 1] = true := by decide +kernel
theorem sz6_4 : formOk 6 [2, 2, 2] = true := by decide +kernel
theorem sz6_5 : formOk 6 [3, 2, 1] = true := by decide +kernel
theorem sz6_6 : formOk 6 [4, 1, 1] = true := by decide +kernel
theorem sz6_7 : formOk 6 [2, 2, 1, 1] = true := by decide +kernel
theorem sz6_8 : formOk 6 [3, 1, 1, 1] = true := by decide +kernel
theorem sz6_9 : formOk 6 [2, 1, 1, 1, 1] = true := by decide +kernel
theorem sz6_10 : formOk 6 [1, 1, 1, 1, 1, 1] = true := by decide +kernel
theorem fms6 : formsU 6 = [[6], [3, 3], [4, 2], [5, 1], [2, 2, 2], [3, 2, 1], [4, 1, 1], [2, 2, 1, 1], [3, 1, 1, 1], [2, 1, 1, 1, 1], [1, 1, 1, 1, 1, 1]] := by decide +kernel
end WS
/-! WsU: defs under an empty stack of guards (repr asks for it), and the law's end over such a def. -/
namespace WS
open PySem PySem.Spec PyProof.Rows L2
structure FnG (pr : Program) (w : World) (K : PySem.W.Frag) (m : PySem.Str → Option Value) (base : Heap) (k : Nat) (g : Addr) (fd : FuncData) (ps : List PySem.Str) (sp : Sp) : Prop where
  len : ∀ xs H Q E, sp xs H Q E → xs.length = ps.length
  run : ∀ (B : Around) (fr : List Env) (s : Shared) (H : Hp) (ar : Args) (us : List Value) (xs : List V) (Q : VK) (E : XK), B.guards = some [] → Room k B → Env0 pr w K m base B fr s H →
    BindsTo s fd ar (ps.zip us) → Vals xs us → sp xs H Q E → codeAny (model pr w) B (.call (.ref g) ar) (CR CX0 fr pr w H s Q E) s
section
variable {pr : Program} {w : World} {K : PySem.W.Frag} {m : PySem.Str → Option Value} {base : Heap}
theorem Fun.okG {x qual : PySem.Str} {st : Stmt} {g : Addr} {fd : FuncData} {N ps : List PySem.Str} {k : Nat} {sp : Sp} (F : Fun K x qual st g fd) (S : FnScope N ps (defScope st)) (hl : ∀ xs H Q E, sp xs H Q E → xs.length = ps.length)
    (hb : ∀ (cd : Value) (B : Around) (fr : List Env) (s : Shared) (H : Hp) (E : XK), B.guards = some [] → Room k (B.deeper (envOfC qual (defScope st) s.heap.objs.size g cd)) →
      ∃ t, PSs (cxOf CX0 pr w K m base N qual (defScope st) g cd B fr s H E).nox (defBody st) t ∧ ∀ xs Q, sp xs H Q E → t { nx := fun _ H' => Q .non H', rt := Q } (start N xs) H) : FnG pr w K m base (k + 1) g fd ps sp := by
  obtain ⟨oc, od, kV, doc, pm, an, cd, ct, osl, rfl, at_, co⟩ := F.ex
  refine ⟨hl, fun B fr s H ar us xs Q E gd rm en bd rv hs => ?_⟩
  have up : ∀ b o, base.get? b = some o → s.heap.get? b = some o := fun b o e => (en.bs b o e).1
  have KH : K.In s.heap := en.mod.kin.keeps up
  have kinds : ∀ y ∈ ps.zip us, (defScope st).names.lookup y.1 = some .local ∨ ((defScope st).names.lookup y.1 = some .cell ∧ ((cellsFrom (s.heap.objs.size + 1) (defScope st).names []).lookup y.1).isSome = true) := by
    intro ⟨a, v⟩ hy
    exact (S.par a (List.of_mem_zip hy).1).imp id fun c => ⟨c, PySem.W.cellsFrom_some _ _ _ (.inl c)⟩
  refine codeAny_call_function rm.depth (KH _ _ at_) rfl S.co S.gen rfl (PySem.W.codeRec_of KH co) (bd _ _ _ _ ?_)
  refine wpAny_newFunctionEnv_cells S.kind kinds fun env ee s1 z => ?_
  subst ee
  obtain ⟨t, pt, run⟩ := hb cd B fr s H E gd (rm.deeper _)
  have J : Inv (cxOf CX0 pr w K m base N qual (defScope st) g cd B fr s H E) [] (start N xs) H s1 := inv_start S rm.hd en (hl _ _ _ _ hs) rv z
  refine ⟨(en.mod.nolimit.keeps up).keeps z.toInCall.keep, codeAny_func (wpAny_mono (pt.nox.run [] s1 (start N xs) H _ J (run xs Q hs)) (fun fl s2 y => ?_) fun _ _ y => y)⟩
  match fl, y with
  | .ret u, ⟨v, σ2, H2, J2, r2, q2⟩ => exact ⟨v, H2, J2.os, J2.bare, J2.base, J2.hok, r2, q2⟩
  | .next, ⟨σ2, H2, J2, q2⟩ => exact ⟨.non, H2, J2.os, J2.bare, J2.base, J2.hok, rfl, q2⟩
  | .brk, ⟨_, _, _, q2⟩ => exact q2.elim
  | .cont, ⟨_, _, _, q2⟩ => exact q2.elim
def DvG (pr : Program) (w : World) (K : PySem.W.Frag) (m : PySem.Str → Option Value) (base : Heap) (x : PySem.Str) (k : Nat) (ps : List PySem.Str) (sp : Sp) : Prop :=
  ∃ g fd, m x = some (.ref g) ∧ PySem.W.keepIn K (.ref g) = true ∧ Binds K fd ps [] ∧ (∃ oc od osl, K.lookup g = some ⟨oc, od, .func fd, osl⟩) ∧ FnG pr w K m base k g fd ps sp
theorem dvg_mk {x : PySem.Str} {st : Stmt} {N ps : List PySem.Str} {k : Nat} {sp : Sp} (M : Md K m x st) (S : FnScope N ps (defScope st)) (hb : BindsAt x st ps) (hl : ∀ xs H Q E, sp xs H Q E → xs.length = ps.length)
    (body : ∀ (g : Addr) (cd : Value) (B : Around) (fr : List Env) (s : Shared) (H : Hp) (E : XK), B.guards = some [] → Room k (B.deeper (envOfC x (defScope st) s.heap.objs.size g cd)) →
      ∃ t, PSs (cxOf CX0 pr w K m base N x (defScope st) g cd B fr s H E).nox (defBody st) t ∧ ∀ xs Q, sp xs H Q E → t { nx := fun _ H' => Q .non H', rt := Q } (start N xs) H) : DvG pr w K m base x (k + 1) ps sp := by
  obtain ⟨g, fd, hm, F⟩ := M
  obtain ⟨oc, od, _, _, _, _, _, _, osl, _, lk, _⟩ := id F.ex
  exact ⟨g, fd, hm, F.kp, F.binds hb, ⟨oc, od, osl, lk⟩, Fun.okG F S hl (body g)⟩
/-- f(a, ..) where no guard stands -/
theorem pe_cg {X : Cx} {k : Nat} {ps : List PySem.Str} {sp : Sp} {x : PySem.Str} {p pos : Pos} {e : Expr} {es : List Expr} {t : TA} (D : DvG X.prog X.w X.K X.mg X.base x k ps sp) (gd : X.A.guards = some []) (hr : Room k X.A) (hg : Gl X x) (ha : PA X (e :: es) t) (nd : (x == ("__debug__" : PySem.Str)) = false := by decide)
    (tr : starEach (e :: es) X.env = (false, eval e X.env) :: starEach es X.env := by rfl) (pl : (backTo pos (starEach es X.env)).any (·.1) = false := by rfl) : PE X (.Call (.Name x p) (e :: es) [] pos) (tCall sp [] E0 t) := by
  obtain ⟨g, fd, hm, hk, hb, _, F⟩ := D
  refine ⟨fun pins s σ H Q I h => wpAny_Call_Name_kw (ld_glob I hg hm ?_ nd)⟩
  refine PySem.W.callWith_K (h₀ := X.base) I.ok.mod.kin hk (thn (ha.run pos pins s σ H _ I h) fun us s1 ⟨xs, H1, J, rv, q⟩ => ⟨J.kIn, ?_⟩) tr pl
  have q' : sp (xs ++ []) H1 Q E0 := q
  rw [List.append_nil] at q'
  have hn : (us ++ []).length = ps.length := by rw [List.append_nil, ← rv.length]; exact F.len _ _ _ _ q'
  have hz := hb s1 us J.kIn hn
  rw [List.append_nil] at hz
  refine wpAny_call (codeAny_mono (F.run X.A X.stack s1 H1 ⟨us, []⟩ us xs Q E0 gd hr J.env0 hz rv q') fun r s2 y => ?_)
  match r, y with
  | .error er, y => exact (show False from y).elim
  | .ok (.ret u), y => exact J.after y
  | .ok .next, y => exact (show False from y).elim
  | .ok .brk, y => exact (show False from y).elim
  | .ok .cont, y => exact (show False from y).elim
/-- the law's def, called by the claim -/
theorem law_end {mb : PySem.Str → Option Value} {k : Nat} {fa a : Addr} {fd : FuncData} {x : PySem.Str} {sp : Sp} {s : Shared} {vs : List Value} {ns : List Int}
    (KH : K.In s.heap) (gm : s.heap.Ns mainGlobals m) (gb : s.heap.Ns builtinsNs mb) (bb : ∀ y : PySem.Str, y ≠ "__name__" → mb y = bootBuiltins y) (nl : s.heap.NoLimit) (gn : s.gens = #[])
    (ob : s.heap.get? a = some { cls := .type "list", data := .seq vs.toArray }) (iv : IntsAre vs ns) (sz : ns.length ≤ sizeLine) (rm : Room k callerA)
    (F : ∀ bs : Heap, K.In bs → bs.Ns mainGlobals m → FnG pr w K m bs k fa fd [x] sp) (bd : ∀ (s : Shared) (u : Value), BindsTo s fd ⟨[u], []⟩ [(x, u)])
    (ps : ∀ H : Hp, Only H → SqL K H a (ns.map V.int) → sp [.ref a] H (fun v _ => v = .bl true) fun _ _ _ => False) :
    codeAny (model pr w) callerA (.call (.ref fa) ⟨[.ref a], []⟩) (fun r t => r = .ok (.ret (.bool true)) ∧ OldK s.heap t.heap ∧ t.os = s.os ∧ AllBare t.gens) s := by
  have vi := vals_ints iv
  have nv := iv.length
  suffices go : ∀ H : Hp, Only H → SqL K H a (ns.map V.int) → HOk pr w H s.heap → (∀ b, H b ≠ none → b = a ∧ K.lookup a = none) →
      codeAny (model pr w) callerA (.call (.ref fa) ⟨[.ref a], []⟩) (fun r t => r = .ok (.ret (.bool true)) ∧ OldK s.heap t.heap ∧ t.os = s.os ∧ AllBare t.gens) s by
    cases lk : K.lookup a with
    | some o =>
      have oe := KH a o lk
      rw [ob] at oe
      injection oe with oe
      subst oe
      exact go (fun _ => none) (fun _ => .inl rfl) (.inr ⟨_, vs.toArray, _, lk, rfl, rfl, rfl, by rw [List.size_toArray, nv]; exact sz, by simpa using vi⟩) (fun b u z => nomatch z) fun b z => absurd rfl z
    | none =>
      refine go (upd (fun _ => none) a (.frz { cls := .type "list", data := .seq vs.toArray } (.lst (ns.map V.int)))) (fun b => ?_) (.inl (.inr ⟨_, upd_same⟩)) (fun b u z => ?_) fun b z => ⟨?_, lk⟩
      · by_cases e : b = a
        · subst e; exact .inr ⟨_, _, upd_same⟩
        · exact .inl (upd_ne e)
      · by_cases e : b = a
        · subst e
          rw [upd_same] at z
          injection z with z
          subst z
          exact ⟨ob, by rw [List.length_map]; exact sz, vs, _, vi, ob⟩
        · rw [upd_ne e] at z; cases z
      · exact Classical.byContradiction fun e => z (upd_ne e)
  intro H only hS ok hA
  have stay : ∀ {b : Addr} {o : Obj}, s.heap.get? b = some o → H b = none → (hidT s.heap H).get? b = some o := fun e n => hidT_get e n
  have free_of : ∀ {b : Addr}, (b = a → False) → H b = none := fun {b} n => Classical.byContradiction fun z => n (hA b z).1
  have ns_of : ∀ {b : Addr} {f : PySem.Str → Option Value}, s.heap.Ns b f → (hidT s.heap H).Ns b f := by
    rintro b f ⟨o, es, ep, e, d, rest⟩
    refine ⟨o, es, ep, stay e (free_of fun z => ?_), d, rest⟩
    subst z
    rw [ob] at e
    injection e with e
    subst e
    exact nomatch (show Data.seq vs.toArray _ = Data.dict es ep from d)
  have KB : K.In (hidT s.heap H) := fun b o e => stay (KH b o e) (Classical.byContradiction fun z => by
    obtain ⟨rfl, z2⟩ := hA b z
    rw [z2] at e
    cases e)
  obtain ⟨mc, nl1, nl2⟩ := nl
  have MD : Mod K m (hidT s.heap H) := ⟨KB, ns_of gm, ⟨mb, ns_of gb, bb⟩, mc, ns_of nl1, nl2⟩
  have EN : Env0 pr w K m (hidT s.heap H) callerA [] s H := ⟨rfl, MD, fun b o e => of_hidT e, Nat.le_of_eq (hidT_size _ _), trivial, fun b z => absurd z (List.not_mem_nil), ok, .of_eq gn⟩
  refine codeAny_mono ((F _ KB (ns_of gm)).run callerA [] s H ⟨[.ref a], []⟩ [.ref a] [.ref a] _ _ rfl rm EN (bd s (.ref a)) (.cons rfl .nil) (ps H only hS)) fun r t y => ?_
  match r, y with
  | .error er, y => exact (show False from y).elim
  | .ok .next, y => exact (show False from y).elim
  | .ok .brk, y => exact (show False from y).elim
  | .ok .cont, y => exact (show False from y).elim
  | .ok (.ret u), ⟨v, H2, os2, bare2, un2, ok2, r2, (q2 : v = .bl true)⟩ =>
    subst q2
    cases (show u = Value.bool true from r2)
    refine ⟨rfl, OldK.of_keep fun b o e => ?_, os2, bare2⟩
    rcases only b with z | ⟨o1, xs, z⟩
    · exact un2.keep b o e z (fun y => absurd y (List.not_mem_nil)) (List.not_mem_nil)
    · have e1 := (ok b _ z).1
      have e2 := (ok2 b _ (un2.frzs b o1 _ z)).1
      rw [e] at e1
      injection e1 with e1
      subst e1
      exact e2
end
end WS
/-! WsV: what the law's own defs use once: keywords, repr, sorted ints, the two draws at once, the mixing. -/
namespace WS
open PySem PySem.Spec PyProof.Rows L2
section
variable {P : Program} {w : World} {K : PySem.W.Frag} {mg : PySem.Str → Option Value} {base : Heap}
/-! ### f(amounts=.., shape=..) -/
abbrev gKw : List Value → List Value → List Value := fun us ws => us ++ ws.reverse
abbrev gKv : List V → List V → List V := fun us ws => us ++ ws.reverse
def Dk (P : Program) (w : World) (K : PySem.W.Frag) (mg : PySem.Str → Option Value) (base : Heap) (x : PySem.Str) (k : Nat) (sp : Sp) : Prop :=
  ∃ f fd, mg x = some (.ref f) ∧ PySem.W.keepIn K (.ref f) = true ∧ KBinds K fd ["shape", "amounts"] ["amounts", "shape"] gKw gKv ∧ FnOk P w K mg base CX0 k f fd ["shape", "amounts"] sp
theorem vals_app {vs zs : List V} {us ws : List Value} (h : Vals vs us) (k : Vals zs ws) : Vals (gKv vs zs) (gKw us ws) := h.append (Vals.reverse k)
abbrev KBindsAt (x : PySem.Str) (st : Stmt) : Prop := ∀ (kV doc pm : Value) (an : Option Addr) (cdv ct : Value) (us ws : List Value), (gKw us ws).length = 2 → bindArgs (PySem.W.fnOf x x (defArgs st) (defBody st) (defScope st) .none kV doc pm an cdv ct) ⟨us, (["amounts", "shape"] : List PySem.Str).zip ws⟩ = pure ((["shape", "amounts"] : List PySem.Str).zip (gKw us ws))
theorem kb_table_count : KBindsAt "table_count" s_table_count := fun _ _ _ _ _ _ us ws hl => by
  rcases us with _ | ⟨a, _ | ⟨b, _ | ⟨c, r⟩⟩⟩ <;> rcases ws with _ | ⟨d, _ | ⟨e, _ | ⟨f, r2⟩⟩⟩ <;> first
    | rfl
    | (exfalso; simp only [gKw, List.length_append, List.length_reverse, List.length_cons, List.length_nil] at hl; omega)
theorem kb_tables_with : KBindsAt "tables_with" s_tables_with := fun _ _ _ _ _ _ us ws hl => by
  rcases us with _ | ⟨a, _ | ⟨b, _ | ⟨c, r⟩⟩⟩ <;> rcases ws with _ | ⟨d, _ | ⟨e, _ | ⟨f, r2⟩⟩⟩ <;> first
    | rfl
    | (exfalso; simp only [gKw, List.length_append, List.length_reverse, List.length_cons, List.length_nil] at hl; omega)
/-- the promise of a def, by keywords; D the same by position -/
theorem dk_of {x : PySem.Str} {st : Stmt} {k : Nat} {sp : Sp} (M : Md K mg x st) (hk : KBindsAt x st) (D : Dv P w K mg base x k ["shape", "amounts"] sp) : Dk P w K mg base x k sp := by
  obtain ⟨f, fd, hm, Fu⟩ := M
  obtain ⟨g, gd, hg, kp, _, ⟨oc', od', osl', lk'⟩, G⟩ := D
  rw [hm] at hg
  injection hg with hg
  injection hg with hg
  subst hg
  obtain ⟨oc, od, kV, doc, pm, an, cdv, ct, osl, rfl, lk, hcd⟩ := Fu.ex
  rw [lk] at lk'
  injection lk' with lk'
  injection lk' with _ _ h3 _
  injection h3 with h3
  subst h3
  refine ⟨f, _, hm, kp, ⟨fun s us ws _ hl => ?_, fun h k => vals_app h k⟩, G⟩
  exact .of_eq (hk kV doc pm an cdv ct us ws hl)
theorem pe_kd {X : Cx} {k : Nat} {sp : Sp} {x : PySem.Str} {p pos : Pos} {kws : List Keyword} {tk : TA} (D : Dk X.prog X.w X.K X.mg X.base x k sp) (hr : Room k X.A) (hg : Gl X x) (hkw : PK X kws tk)
    (hall : (backToKw pos (keywordEach kws X.env)).all (·.1.isSome) = true := by rfl) (hks : (backToKw pos (keywordEach kws X.env)).filterMap (·.1) = (["amounts", "shape"] : List PySem.Str) := by rfl) (hdb : (x == ("__debug__" : PySem.Str)) = false := by decide)
    (hpl : ((backTo pos (starEach [] X.env)).any (·.1) || (backToKw pos (keywordEach kws X.env)).any (·.1.isNone)) = false := by rfl) : PE X (.Call (.Name x p) [] kws pos) (tCallK sp gKv E0 tNil tk) := by
  obtain ⟨f, fd, hm, hk, hb, F⟩ := D
  exact pe_callK0 F hr hg hm hk hb pass0 hkw hall hks hdb hpl
theorem em_kcall {ι : Type} {args : ι → List PyData} {pre : ι → Prop} {res : ι → V → Hp → Prop} {σ : L2.St} {H : Hp} {tk : TA} {E : XK} {d1 d2 : PyData} (i : ι) (ha : args i = [d1, d2]) (p : pre i) (h : Ea tk σ H (Da [d2, d1])) : Em (tCallK (Pr args pre res) gKv E tNil tk) σ H (res i) := fun H1 e Q q =>
  h H1 e _ fun vs H2 e2 t => by
    obtain ⟨a, b, rfl, t1, t2⟩ := tpa2 t
    exact ⟨i, by rw [ha]; exact .cons t2 (.cons t1 .nil), p, fun v H3 e3 r => q v H3 (e2.trans e3) r⟩
/-! ### repr, sorted ints -/
theorem em_repr {σ : L2.St} {H : Hp} {te : TE} {ds : List PyData} (h : El te σ H ds) (h1 : (PyData.list ds).showable = true) (h2 : (PyData.list ds).hasDict = false) (h3 : (PyData.list ds).depth ≤ 40) (h4 : (PyData.list ds).shown.length ≤ sizeLine) :
    Em (tCB (rReprL K) (tCons te tNil)) σ H (fun v _ => v = .str (PyData.list ds).shown) := fun H1 e Q q => h H1 e _ fun v H2 e2 p => by
  obtain ⟨a, rfl, xs, k1, k2⟩ := p
  exact ⟨a, xs, ds, rfl, .inl (.inl k1), k2, h1, h2, h3, h4, q _ H2 e2 rfl⟩
def twoOk (c : Nat) : Bool := (PyData.list [.int (c : Int), .int (c : Int)]).showable && !(PyData.list [.int (c : Int), .int (c : Int)]).hasDict && decide ((PyData.list [.int (c : Int), .int (c : Int)]).depth ≤ 40) && decide ((PyData.list [.int (c : Int), .int (c : Int)]).shown.length ≤ sizeLine)
theorem two_all : (List.range 91).all twoOk = true := by decide +kernel
theorem two_ok {c : Nat} (h : c ≤ 90) : twoOk c = true := List.all_eq_true.mp two_all c (List.mem_range.mpr (by omega))
theorem el_sortI {σ : L2.St} {H : Hp} {te : TE} {ns asc : List Int} (hp : asc.Perm ns) (hs : asc.Pairwise (· ≤ ·)) (hl : ns.length < 64) (h : El te σ H (ns.map .int)) : El (tCB (rSorted K) (tCons te tNil)) σ H (asc.map .int) := fun H1 e Q q => h H1 e _ fun v H2 e2 p => by
  obtain ⟨a, rfl, xs, k1, k2⟩ := p
  rw [k2.ints] at k1
  refine ⟨a, ns, rfl, .inl (.inl k1), hl, fun ns' p' hp' hsd hn => ?_⟩
  cases sorted_uniq (hp'.trans hp.symm) hsd hs
  exact q _ _ (e2.trans (sm_new hn)) ⟨p', rfl, _, upd_same, tpa_ints asc⟩
/-! ### the draws -/
theorem q_form {σ : L2.St} {H : Hp} {p : Addr} {D : Ends} {u : TS} {i k : Nat} {E : XK} (hv : σ[k]? = some (some (.ref p))) (V : Vat p H) (kk : ∀ (n : Nat) (form : List Int), n ≤ 6 → form ∈ formsU n → ∀ v H', Same (dels H [p]) H' → Vat p H' → Tp H' v (pT form) → u D (σ.set i (some v)) H') :
    tSeq (tAsg (tCall S_form [] E (tCons (tVar k) (tCons (tC (.int 0)) (tCons (tC (.int 6)) tNil)))) (gName i)) u D σ H := ⟨_, hv, p, rfl, V, kk⟩
theorem ls_ne_vat {H : Hp} {p q : Addr} {ds : List PyData} (V : Vat p H) (l : Ls H q ds) (h : ∀ d ∈ ds, ∃ r, d = pR r) : q ≠ p := fun z => by
  subst z
  obtain ⟨a, b, c, hv⟩ := V
  obtain ⟨xs, h1, h2⟩ := l
  rw [hv] at h1
  injection h1 with h1
  injection h1 with h1
  subst h1
  cases h2 with
  | cons t _ =>
    obtain ⟨r, e⟩ := h _ List.mem_cons_self
    subst e
    cases t
theorem q_two {σ : L2.St} {H : Hp} {p : Addr} {D : Ends} {u : TS} {E E' : XK} {form : List Int} {vf : L2.V} (hv : σ[0]? = some (some (.ref p))) (V : Vat p H) (hf : σ[2]? = some (some vf)) (tf : Tp H vf (pT form)) (hok : shOk form = true)
    (kk : ∀ (q : Addr) (x y z l : Int) (v : L2.V) (H' : Hp), 0 ≤ x → 0 ≤ y → 0 ≤ z → 0 ≤ l → x + y + z + l = form.sum → Same (dels H [p]) H' → Vat p H' → Ls H' q ((listed form).map pR) → Tp H' v (pT [x, y, z, l]) → u D ((σ.set 3 (some (.ref q))).set 4 (some v)) H') :
    tSeq (tAsg (tTup (tCons (tCall S_listed [] E (tCons (tVar 2) (tCons (tC (.int 4)) tNil))) (tCons (tCall S_sums [] E' (tCons (tVar 0) (tCons (tCB (rSumT K) (tCons (tVar 2) tNil)) tNil))) tNil))) (gTup K 2 (gCons (gName 3) (gCons (gName 4) gNil)))) u D σ H := by
  have sm := shOk_small hok
  have A : Em (tCall S_listed [] E (tCons (tVar 2) (tCons (tC (.int 4)) tNil))) σ H (Li ((listed form).map pR)) := em_call form hok (ea_cons (ed_var hf tf) (ea_cons ed_int ea_nil))
  refine A H (.refl _) _ fun v1 H1 e1 ⟨q, eq, lq⟩ => ?_
  subst eq
  have V1 := V.up e1
  have hqp : q ≠ p := ls_ne_vat V1 lq fun d hd => by obtain ⟨r, _, rfl⟩ := List.mem_map.mp hd; exact ⟨r, rfl⟩
  have S : Ed (tCB (rSumT K) (tCons (tVar 2) tNil)) σ H1 (.int form.sum) := ed_sumT (ed_var hf (Tp.up tf e1))
  refine ⟨.ref p, hv, S H1 (.refl _) _ fun v2 H2 e2 t2 => ?_⟩
  have hs := sm.sum
  have h0 := nn_sum sm.nn
  refine ⟨p, form.sum, by rw [Tp.ofInt t2]; rfl, V1.up e2, h0, by omega, fun x y z l hx hy hz hl hsum v H3 s3 V3 t3 => ⟨(by show (2 : Nat) ≤ sizeLine; decide), fun a ha => ?_⟩⟩
  obtain ⟨o, ho, hfx⟩ := (V1.up e2).fix
  have lq3 := ls_dels ho hfx s3 hqp (lq.up e2)
  refine ⟨a, [.ref q, v], rfl, .inl (.inl upd_same), rfl, _, _, rfl, _, _, rfl, rfl, ?_⟩
  exact kk q x y z l v _ hx hy hz hl hsum (dels_step (e1.trans e2) (Same.dels_trans s3 (Same.to_dels (sm_new ha)))) (V3.up (sm_new ha)) (lq3.up (sm_new ha)) (t3.up (sm_new ha))
/-- pm fresh behind the base -/
theorem dels_drop {H0 H H' : Hp} {p pm : Addr} (a : Same (dels H0 [p]) H) (hn : H0 pm = none) (b : Same (dels H [p, pm]) H') : Same (dels H0 [p]) H' := fun c o hc => by
  by_cases e : c = p
  · rw [dels_none (by simp [e])] at hc; cases hc
  · have hc' := hc
    rw [dels_some (by simpa using e)] at hc
    by_cases e2 : c = pm
    · rw [e2, hn] at hc; cases hc
    · exact b c o (by rw [dels_some (by simp [e, e2])]; exact a c o hc')
/-- mixed.insert(sip(vat, 4), mixed.pop()) -/
theorem q_mix {σ : L2.St} {H : Hp} {p pm : Addr} {D : Ends} {u : TS} {E : XK} {x y z l : Int} (hv : σ[0]? = some (some (.ref p))) (V : Vat p H) (hm : σ[8]? = some (some (.ref pm))) (hpm : H pm = some (.lst ([x, y, z, l].map L2.V.int))) (hne : pm ≠ p)
    (kk : ∀ (r : Nat) (H' : Hp), r < 4 → Same (dels H [p, pm]) H' → Vat p H' → Ls H' pm ((mix r [x, y, z, l]).map .int) → u D σ H') :
    tSeq (tDrop (tBM K "list" (fun x vs H Q => ∃ (l : Addr) (xs : List L2.V) (i : Int) (y : L2.V), x = .ref l ∧ vs = [.int i, y] ∧ H l = some (.lst xs) ∧ xs.length < sizeLine ∧ 0 ≤ i ∧ i < 2 ^ 63 ∧ Q .non (upd H l (.lst (xs.take i.toNat ++ [y] ++ xs.drop i.toNat))))
      (tVar 8) (tCons (tCall S_sip [] E (tCons (tVar 0) (tCons (tC (.int 4)) tNil))) (tCons (tBM0 K "list" rPop (tVar 8)) tNil)))) u D σ H := by
  refine ⟨_, hm, .inl ⟨rfl, _, .inl (.inl hpm)⟩, ?_⟩
  refine call_sip (top := 4) hv ed_int V (by decide) (by decide) fun r H1 r0 r1 s1 V1 => ?_
  have hpm1 : H1 pm = some (.lst ([x, y, z, l].map L2.V.int)) := s1 _ _ (by rw [dels_some (by simpa using hne)]; exact hpm)
  refine ⟨_, hm, .inl ⟨rfl, _, .inl (.inl hpm1)⟩, pm, _, .int l, rfl, rfl, hpm1, rfl, ?_⟩
  refine ⟨pm, [.int x, .int y, .int z], r, .int l, rfl, rfl, upd_same, (by show (3 : Nat) < sizeLine; decide), r0, by omega, ?_⟩
  have V2 : ∀ o, Vat p (upd (upd H1 pm (.lst ([x, y, z, l].map L2.V.int).dropLast)) pm o) := fun o => by
    obtain ⟨a, b, c, h⟩ := V1
    exact ⟨a, b, c, by rw [upd_ne (Ne.symm hne), upd_ne (Ne.symm hne)]; exact h⟩
  refine kk r.toNat _ (by omega) (Same.dels_upd (Same.dels_upd (dels_mono (p := p) (by simp) s1) (by simp)) (by simp)) (V2 _) ⟨_, upd_same, ?_⟩
  have e : ([.int x, .int y, .int z] : List L2.V).take r.toNat ++ [.int l] ++ ([.int x, .int y, .int z] : List L2.V).drop r.toNat = (mix r.toNat [x, y, z, l]).map L2.V.int := by
    unfold mix
    rw [List.map_append, List.map_append, List.map_take, List.map_drop]
    rfl
  rw [e]
  exact tpa_ints _
/-- sums[:-1] + (sums[-1] + 1 + sip(vat, 3),) -/
theorem q_other {σ : L2.St} {H : Hp} {p : Addr} {D : Ends} {u : TS} {E : XK} {x y z l : Int} {vs : L2.V} (hv : σ[0]? = some (some (.ref p))) (V : Vat p H) (hs : σ[4]? = some (some vs)) (ts : Tp H vs (pT [x, y, z, l]))
    (kk : ∀ (r : Int) (v : L2.V) (H' : Hp), 0 ≤ r → r < 3 → Same (dels H [p]) H' → Vat p H' → Tp H' v (pT [x, y, z, l + 1 + r]) → u D (σ.set 10 (some v)) H') :
    tSeq (tAsg (tOp (rCatA K) (tSl (rSlA K) (tVar 4) tNoPart (tPart (tUn (rU fun i => .int (-i)) (tC (.int 1))))) (tTup (tCons (tOp (rI0 fun i j => .int (i + j)) (tOp (rI0 fun i j => .int (i + j)) (tOp (rIxT K) (tVar 4) (tUn (rU fun i => .int (-i)) (tC (.int 1)))) (tC (.int 1))) (tCall S_sip [] E (tCons (tVar 0) (tCons (tC (.int 3)) tNil)))) tNil))) (gName 10)) u D σ H := by
  have A : Ed (tSl (rSlA K) (tVar 4) tNoPart (tPart (tUn (rU fun i => .int (-i)) (tC (.int 1))))) σ H (pT [x, y, z]) := ed_is (ed_sl (ed_var hs ts) eo_none (eo_some (ed_neg ed_int))) (congrArg PyData.tuple (cut_init (l := [PyData.int x, .int y, .int z]) (a := .int l)))
  refine A H (.refl _) _ fun v1 H1 e1 t1 => ?_
  have B : Ed (tOp (rI0 fun i j => .int (i + j)) (tOp (rIxT K) (tVar 4) (tUn (rU fun i => .int (-i)) (tC (.int 1)))) (tC (.int 1))) σ H1 (.int (l + 1)) := ed_add (ed_ixT (ed_var hs (Tp.up ts e1)) (ed_neg ed_int) (atI_last (l := [PyData.int x, .int y, .int z]) (a := .int l))) ed_int
  refine B H1 (.refl _) _ fun v2 H2 e2 t2 => ?_
  cases Tp.ofInt t2
  refine call_sip (top := 3) hv ed_int ((V.up e1).up e2) (by decide) (by decide) fun r H3 r0 r1 s3 V3 => ⟨l + 1, r, rfl, rfl, (by show (1 : Nat) ≤ sizeLine; decide), fun a ha => ?_⟩
  have t3 : Tp H3 v1 (pT [x, y, z]) := (Tp.up t1 e2).kp (((V.up e1).up e2).kp s3)
  obtain ⟨b, k1⟩ := t3.ofT
  obtain ⟨rfl, k2⟩ := k1
  have sn := sm_new (o := .tup [L2.V.int (l + 1 + r)]) ha
  have st : Same (dels H [p]) (upd H3 a (.tup [L2.V.int (l + 1 + r)])) := dels_step (e1.trans e2) (Same.dels_trans s3 (Same.to_dels sn))
  refine ⟨b, a, [.int x, .int y, .int z], [.int (l + 1 + r)], rfl, rfl, .inl (.inl (sn _ _ k2)), .inl (.inl upd_same), (by show (4 : Nat) ≤ sizeLine; decide), fun h => (by cases h), fun _ h => (by cases h), fun _ _ c hc => ?_⟩
  exact kk r _ _ r0 r1 (Same.dels_trans st (Same.to_dels (sm_new hc))) ((V3.up sn).up (sm_new hc)) (tp_T (ns := [x, y, z, l + 1 + r]) upd_same)
/-! ### a list display of two values under a relation -/
theorem ei_lst2 {σ : L2.St} {H : Hp} {ta tb : TE} {R : L2.V → Hp → Prop} (mono : ∀ H H' v, Kp H H' → R v H → R v H') (h1 : Em ta σ H R) (h2 : Em tb σ H R) : Ei (iList K (tLst (tCons ta (tCons tb tNil)))) σ H [(), ()] (fun H v _ => R v H) any := fun H1 e R' q =>
  h1 H1 e _ fun v1 H2 e2 r1 => h2 H2 (e.trans e2) _ fun v2 H3 e3 r2 => ⟨(by show (2 : Nat) ≤ sizeLine; decide), fun a ha => ⟨a, rfl, ⟨_, .inl (.inl upd_same)⟩, q _ _ ((e2.trans e3).trans (sm_new ha))
    (itb_list (rel := fun H v _ => R v H) (fun H H' v _ k r => mono H H' v k r) upd_same (.cons (mono _ _ _ (.of (e3.trans (sm_new ha))) r1) (.cons (mono _ _ _ (.of (sm_new ha)) r2) .nil)) True.intro)⟩⟩
theorem ed_lenTabs {C : Addr} {σ : L2.St} {H : Hp} {te : TE} {ts : List (List (List Int))} (h : Em te σ H (IsTabs C ts)) : Ed (tCB (rLenQ K) (tCons te tNil)) σ H (.int ts.length) := fun H1 e Q q => h H1 e _ fun v H2 e2 p => by
  obtain ⟨a, xs, rfl, k1, k2⟩ := p
  exact ⟨a, xs, rfl, .inr (.inl (.inl k1)), q _ H2 e2 (by rw [k2.len]; exact Tp.int _)⟩
theorem tabs_nil {C : Addr} {v : L2.V} {H : Hp} (h : IsTabs C [] v H) : Tp H v (pT []) := by
  obtain ⟨a, xs, rfl, k1, k2⟩ := h
  cases k2
  exact tp_T (ns := []) k1
end
end WS
/-! WsW: _law_right. -/
namespace WS
open PySem PySem.Spec PyProof.Rows L2
theorem forms_good : ∀ n : Nat, n ≤ 6 → ∀ form ∈ formsU n, formOk n form = true
  | 0, _ => List.all_eq_true.mp size0
  | 1, _ => List.all_eq_true.mp size1
  | 2, _ => List.all_eq_true.mp size2
  | 3, _ => List.all_eq_true.mp size3
  | 4, _ => fun form hf => by
    rw [fms4] at hf
    simp only [List.mem_cons, List.not_mem_nil, or_false] at hf
    rcases hf with rfl | rfl | rfl | rfl | rfl
    · exact sz4_0
    · exact sz4_1
    · exact sz4_2
    · exact sz4_3
    · exact sz4_4
  | 5, _ => fun form hf => by
    rw [fms5] at hf
    simp only [List.mem_cons, List.not_mem_nil, or_false] at hf
    rcases hf with rfl | rfl | rfl | rfl | rfl | rfl | rfl
    · exact sz5_0
    · exact sz5_1
    · exact sz5_2
    · exact sz5_3
    · exact sz5_4
    · exact sz5_5
    · exact sz5_6
  | 6, _ => fun form hf => by
    rw [fms6] at hf
    simp only [List.mem_cons, List.not_mem_nil, or_false] at hf
    rcases hf with rfl | rfl | rfl | rfl | rfl | rfl | rfl | rfl | rfl | rfl | rfl
    · exact sz6_0
    · exact sz6_1
    · exact sz6_2
    · exact sz6_3
    · exact sz6_4
    · exact sz6_5
    · exact sz6_6
    · exact sz6_7
    · exact sz6_8
    · exact sz6_9
    · exact sz6_10
  | _ + 7, h => by omega
theorem comps_mem {n : Nat} {x y z l : Int} (hx : 0 ≤ x) (hy : 0 ≤ y) (hz : 0 ≤ z) (hl : 0 ≤ l) (hs : x + y + z + l = (n : Int)) : [x, y, z, l] ∈ comps n := by
  simp only [comps, List.mem_flatMap, List.mem_range, List.mem_map]
  refine ⟨x.toNat, by omega, y.toNat, by omega, z.toNat, by omega, ?_⟩
  have e1 : (x.toNat : Int) = x := by omega
  have e2 : (y.toNat : Int) = y := by omega
  have e3 : (z.toNat : Int) = z := by omega
  have e4 : ((n - x.toNat - y.toNat - z.toNat : Nat) : Int) = l := by omega
  rw [e1, e2, e3, e4]
/-- what is known of a pair -/
structure PairUse (form s : List Int) : Prop where
  tabs : tabsOk form s = true
  perm : (rowsFilled form s).Perm (dueU form s)
  shape : ∀ t ∈ rowsFilled form s, (t.map fun r => (r.length : Int)) = form
  count : tablesCounted form s = some ((dueU form s).length : Int)
  ne : (dueU form s).length < 2 ∨ ∀ t ∈ dueU form s, t ≠ []
  small : (dueU form s).length ≤ 90
  mix : ∀ r < 4, tablesCounted form (mix r s) = some ((dueU form s).length : Int)
  more : tablesCounted form (s ++ [0, 0]) = some ((dueU form s).length : Int)
  asc : (ascOf s).Pairwise (· ≤ ·)
  ascP : (ascOf s).Perm (s.filter fun n => decide (0 < n))
  ordOk : shOk (ascOf s).reverse = true
  ordSum : (ascOf s).reverse.sum = form.sum
  heavy : hv form (ascOf s).reverse = decide (0 < (dueU form s).length)
theorem pair_use {form s : List Int} (h : pairOk form s = true) : PairUse form s := by
  simp only [pairOk, Bool.and_eq_true, decide_eq_true_eq, List.all_eq_true, Bool.or_eq_true, List.mem_range, Bool.not_eq_true', List.isEmpty_eq_false_iff, beq_iff_eq, List.isPerm_iff] at h
  obtain ⟨⟨⟨⟨⟨⟨⟨⟨⟨⟨⟨⟨a1, a2⟩, a3⟩, a4⟩, a5⟩, a6⟩, a7⟩, a8⟩, a9⟩, a10⟩, a11⟩, a12⟩, a13⟩ := h
  exact ⟨a1, a2, a3, a4, a5, a6, a7, a8, ascB_iff a9, a10, a11, a12, a13⟩
theorem pair_good {n : Nat} {form : List Int} (hn : n ≤ 6) (hf : form ∈ formsU n) : shOk form = true ∧ form.sum = (n : Int) ∧ ∀ x y z l : Int, 0 ≤ x → 0 ≤ y → 0 ≤ z → 0 ≤ l → x + y + z + l = form.sum → PairUse form [x, y, z, l] := by
  have h := forms_good n hn form hf
  simp only [formOk, Bool.and_eq_true, decide_eq_true_eq, List.all_eq_true] at h
  exact ⟨h.1.1, h.1.2, fun x y z l hx hy hz hl hs => pair_use (h.2 _ (comps_mem hx hy hz hl (by rw [hs, h.1.2])))⟩
theorem amOk4 {x y z l : Int} (hx : 0 ≤ x) (hy : 0 ≤ y) (hz : 0 ≤ z) (hl : 0 ≤ l) (hs : x + y + z + l ≤ 10) : amOk [x, y, z, l] = true := by
  simp [amOk]
  omega
section
variable {P : Program} {w : World} {K : PySem.W.Frag} {mg : PySem.Str → Option Value} {base : Heap} {C : Addr}
theorem ed_neStr {σ : L2.St} {H : Hp} {ta tb : TE} {a b : PySem.Str} (ha : Em ta σ H (fun v _ => v = .str a)) (hb : Em tb σ H (fun v _ => v = .str b)) : Ed (tOp rNe ta tb) σ H (.bool (!decide (a = b))) := fun H1 e Q q =>
  ha H1 e _ fun v H2 e2 p => hb H2 (e.trans e2) _ fun u H3 e3 p3 => by
    subst p p3
    refine ⟨rfl, q _ H3 (e2.trans e3) ?_⟩
    have : decide (V.str a = V.str b) = decide (a = b) := by simp
    rw [this]
    exact Tp.bl _
theorem eqv_self {d : PyData} (h : plain d = true) : PyData.eqv d d = true := (eqv_iff d d h h).mpr rfl
theorem ls_dels2 {H H' : Hp} {p pm q : Addr} {o om : HO} {ds : List PyData} (hp : H p = some o) (f : Fix o = false) (hpm : H pm = some om) (fm : Fix om = false) (e : Same (dels H [p, pm]) H') (h1 : q ≠ p) (h2 : q ≠ pm) (l : Ls H q ds) : Ls H' q ds := by
  obtain ⟨xs, k1, k2⟩ := l
  refine ⟨xs, e _ _ (by rw [dels_some (by simp [h1, h2])]; exact k1), k2.kp (kp_dels (fun a ha => ?_) e)⟩
  rcases List.mem_cons.mp ha with rfl | ha
  · exact ⟨o, hp, f⟩
  · rw [List.mem_singleton.mp ha]; exact ⟨om, hpm, fm⟩
abbrev s__law_right : Stmt := topS 65
abbrev N__law_right : List PySem.Str := ["_law_vat", "_law_turn", "_law_form_here", "_law_every", "_law_sums_here", "_law_due", "_law_told", "_law_found", "_law_mixed", "_law_ordered", "_law_other_sums", "_law_lines_here", "_law_each", "_law_part"]
theorem sc__law_right : FnScope N__law_right ["_law_vat"] (defScope s__law_right) := ⟨rfl, rfl, rfl, by decide +kernel, rfl, by decide +kernel, by decide +kernel⟩
def S_right : Sp := fun vs H Q _ => ∃ p : Addr, vs = [.ref p] ∧ Vat p H ∧ ∀ H', Same (dels H [p]) H' → Q (.bl true) H'
theorem d_right (B : Bt mg) (T : Tb K mg C) (D__law_sip : Dv P w K mg base "_law_sip" 1 ["_law_vat", "_law_top"] S_sip) (D__law_form : Dv P w K mg base "_law_form" 3 ["_law_vat", "_law_least", "_law_top"] S_form) (D__law_listed : Dv P w K mg base "_law_listed" 2 ["_law_form_here", "_law_top_here"] S_listed)
    (D__law_sums : Dv P w K mg base "_law_sums" 2 ["_law_vat", "_law_total"] S_sums) (D__law_content : Dv P w K mg base "_law_content" 1 ["_law_lines_here", "_law_many"] S_content) (D_table_count : Dv P w K mg base "table_count" 4 ["shape", "amounts"] S_table_count) (K_table_count : Dk P w K mg base "table_count" 4 S_table_count)
    (D_tables_with : Dv P w K mg base "tables_with" 10 ["shape", "amounts"] (S_tables_with C)) (K_tables_with : Dk P w K mg base "tables_with" 10 (S_tables_with C)) (D_heavier : Dv P w K mg base "heavier" 5 ["shape", "other"] S_heavier) (D_rows : Dp P w K mg base C "rows" 1 (S_rows C)) (D_shape : Dp P w K mg base C "shape" 2 (S_shape C))
    (M : Md K mg "_law_right" s__law_right) : DvG P w K mg base "_law_right" 11 ["_law_vat"] S_right :=
  dvg_mk M sc__law_right (fun _ _ _ _ _ _ us hl => match us, hl with | [_], _ => rfl) (fun vs H Q E ⟨_, e, _⟩ => by rw [e]; rfl) fun f cdv A outer s H E gd hr => ⟨_,
(pss_cons (ps_for PassesOwn.never rfl (pi_range1 (by rfl) B.b_range (pa_cons pe_int pa_nil)) (pg_name (i := 1) sc__law_right.nd rfl (.inl rfl))
  (pss_cons (ps_set (i := 2) sc__law_right.nd rfl (.inr rfl) (pe_cd D__law_form (hr.mono (by decide)) (by rfl) (pa_cons (pv 0) (pa_cons pe_int (pa_cons pe_int pa_nil)))))
  (pss_cons (ps_asg (pe_tup (pa_cons (pe_cd D__law_listed (hr.mono (by decide)) (by rfl) (pa_cons (pv 2) (pa_cons pe_int pa_nil))) (pa_cons (pe_cd D__law_sums (hr.mono (by decide)) (by rfl) (pa_cons (pv 0) (pa_cons (pe_callB (r := rSumT K) (cr_sumT rfl) (by rfl) B.b_sum (by decide +kernel) (pa_cons (pv 2) pa_nil)) pa_nil))) pa_nil))) (ws_pair (K := K) rfl rfl (pg_name (i := 3) sc__law_right.nd rfl (.inl rfl)) (pg_name (i := 4) sc__law_right.nd rfl (.inr rfl))))
  (pss_cons (ps_set (i := 5) sc__law_right.nd rfl (.inl rfl) (pe_callB (r := rSortD K) (cr_sortD hr.units) (by rfl) B.b_sorted (by decide +kernel) (pa_cons (pe_lc (own := [("_law_lines_here", 11)]) rfl sc__law_right.nd (pi_list (pv 3)) (blkOk_by (own := [("_law_lines_here", 11)]) (N := N__law_right) (sc := defScope s__law_right) (by decide +kernel)) (fun _ _ _ _ _ => (pg_name (i := 11) sc__law_right.nd rfl (Or.inl rfl))) (fun _ _ _ _ _ => (pts_one (pt_cmpR (r := rEqD K) (op_eqD hr.units) (pe_cd D__law_content (hr.mono (by decide)) (by rfl) (pa_cons (pv 11) (pa_cons pe_int pa_nil))) (pv 4) (nomark _)))) (fun _ _ _ _ _ => (pv 11))) pa_nil)))
  (pss_cons (ps_set (i := 6) sc__law_right.nd rfl (.inl rfl) (pe_lst (pa_cons (pe_cd D_table_count (hr.mono (by decide)) (by rfl) (pa_cons (pv 2) (pa_cons (pv 4) pa_nil))) (pa_cons (pe_kd K_table_count (hr.mono (by decide)) (by rfl) (pk_cons (pv 4) (pk_cons (pv 2) pk_nil))) pa_nil))))
  (pss_cons (ps_if (pt_cmpR op_ne (pe_callB (r := rReprL K) (cr_reprL hr.units gd) (by rfl) B.b_repr (by decide +kernel) (pa_cons (pv 6) pa_nil)) (pe_callB (r := rReprL K) (cr_reprL hr.units gd) (by rfl) B.b_repr (by decide +kernel) (pa_cons (pe_op op_rep (pe_lst (pa_cons (pe_callB (r := rLenQ K) call_len_seq (by rfl) B.b_len (by decide +kernel) (pa_cons (pv 5) pa_nil)) pa_nil)) pe_int) pa_nil)) (nomark _)) (pss_one (ps_ret pe_bl)) pss_nil)
  (pss_cons (ps_for PassesOwn.never rfl (pi_list (pe_lst (pa_cons (pe_cd D_tables_with (hr.mono (by decide)) (by rfl) (pa_cons (pv 2) (pa_cons (pv 4) pa_nil))) (pa_cons (pe_kd K_tables_with (hr.mono (by decide)) (by rfl) (pk_cons (pv 4) (pk_cons (pv 2) pk_nil))) pa_nil)))) (pg_name (i := 7) sc__law_right.nd rfl (.inl rfl))
  (pss_cons (ps_if (PW.pt (pw_or (pt_not (pt_val (pe_callB (r := rIsi K) call_isi (by rfl) B.b_isinstance (by decide +kernel) (pa_cons (pv 7) (pa_cons (pe_bltn (v := .ty "tuple") (by rfl) B.b_tuple (by decide +kernel) rfl) pa_nil))))) (pw_or1 (pt_cmpR (r := rNeD K) (op_neD hr.units) (pe_lc (own := [("_law_each", 12)]) rfl sc__law_right.nd (pi_tup (pv 7)) (blkOk_by (own := [("_law_each", 12)]) (N := N__law_right) (sc := defScope s__law_right) (by decide +kernel)) (fun _ _ _ _ _ => (pg_name (i := 12) sc__law_right.nd rfl (Or.inl rfl))) (fun _ _ _ _ _ => pts_nil) (fun _ _ _ _ _ => (pe_pr D_rows (pv 12) T.cl (hr.mono (by decide))))) (pv 5) (nomark _))))) (pss_one (ps_ret pe_bl)) pss_nil)
  (pss_one (ps_if (pt_cmpR (r := rNeD K) (op_neD hr.units) (pe_lc (own := [("_law_each", 12)]) rfl sc__law_right.nd (pi_tup (pv 7)) (blkOk_by (own := [("_law_each", 12)]) (N := N__law_right) (sc := defScope s__law_right) (by decide +kernel)) (fun _ _ _ _ _ => (pg_name (i := 12) sc__law_right.nd rfl (Or.inl rfl))) (fun _ _ _ _ _ => (pts_one (PW.pt (pw_or (pt_not (pt_val (pe_callB (r := rIsi K) call_isi (by rfl) B.b_isinstance (by decide +kernel) (pa_cons (pv 12) (pa_cons (pe_glob (v := .ref C) rfl T.mgC rfl) pa_nil))))) (pw_or1 (pt_cmpR (r := rNeD K) (op_neD hr.units) (pe_pr D_shape (pv 12) T.cl (hr.mono (by decide))) (pv 2) (nomark _))))))) (fun _ _ _ _ _ => (pv 12))) (pe_lst pa_nil) (nomark _)) (pss_one (ps_ret pe_bl)) pss_nil))))
  (pss_cons (ps_set (i := 8) sc__law_right.nd rfl (.inl rfl) (pe_callTy (r := rListQ K) call_list_of (by rfl) B.b_list (by decide +kernel) (pa_cons (pv 4) pa_nil)))
  (pss_cons (ps_expr (pe_bm PySem.F.plainAttrs_list PySem.F.slot_list_insert PySem.F.type_list_insert mt_insert (pv 8) (pa_cons (pe_cd D__law_sip (hr.mono (by decide)) (by rfl) (pa_cons (pv 0) (pa_cons pe_int pa_nil))) (pa_cons (pe_bm0 PySem.F.plainAttrs_list PySem.F.slot_list_pop PySem.F.type_list_pop mt_pop (pv 8)) pa_nil))))
  (pss_cons (ps_if (PW.pt (pw_or (pt_cmpR op_ne (pe_cd D_table_count (hr.mono (by decide)) (by rfl) (pa_cons (pv 2) (pa_cons (pe_callTy (r := rTupQ K) call_tuple_of (by rfl) B.b_tuple (by decide +kernel) (pa_cons (pv 8) pa_nil)) pa_nil))) (pe_callB (r := rLenQ K) call_len_seq (by rfl) B.b_len (by decide +kernel) (pa_cons (pv 5) pa_nil)) (nomark _)) (pw_or1 (pt_cmpR op_ne (pe_cd D_table_count (hr.mono (by decide)) (by rfl) (pa_cons (pv 2) (pa_cons (pe_op (r := rCatA K) op_catA (pv 4) (pe_tup (pa_cons pe_int (pa_cons pe_int pa_nil)))) pa_nil))) (pe_callB (r := rLenQ K) call_len_seq (by rfl) B.b_len (by decide +kernel) (pa_cons (pv 5) pa_nil)) (nomark _))))) (pss_one (ps_ret pe_bl)) pss_nil)
  (pss_cons (ps_set (i := 9) sc__law_right.nd rfl (.inl rfl) (pe_callTy (r := rTupQ K) call_tuple_of (by rfl) B.b_tuple (by decide +kernel) (pa_cons (pe_revL (pe_callB (r := rSorted K) cr_sorted (by rfl) B.b_sorted (by decide +kernel) (pa_cons (pe_lc (own := [("_law_part", 13)]) rfl sc__law_right.nd (pi_tup (pv 4)) (blkOk_by (own := [("_law_part", 13)]) (N := N__law_right) (sc := defScope s__law_right) (by decide +kernel)) (fun _ _ _ _ _ => (pg_name (i := 13) sc__law_right.nd rfl (Or.inl rfl))) (fun _ _ _ _ _ => (pts_one (pt_cmpR op_gt (pv 13) pe_int (nomark _)))) (fun _ _ _ _ _ => (pv 13))) pa_nil))) pa_nil)))
  (pss_cons (ps_if (pt_cmpR op_ne (pe_cd D_heavier (hr.mono (by decide)) (by rfl) (pa_cons (pv 2) (pa_cons (pv 9) pa_nil))) (pe_cmpR op_gt (pe_callB (r := rLenQ K) call_len_seq (by rfl) B.b_len (by decide +kernel) (pa_cons (pv 5) pa_nil)) pe_int (nomark _)) (nomark _)) (pss_one (ps_ret pe_bl)) pss_nil)
  (pss_cons (ps_set (i := 10) sc__law_right.nd rfl (.inl rfl) (pe_op (r := rCatA K) op_catA (pe_slice (r := rSlA K) sl_tupA (pv 4) po_none (po_some (pe_un un_neg pe_int))) (pe_tup (pa_cons (pe_op op_add (pe_op op_add (pe_ix (r := rIxT K) ix_tup (pv 4) (pe_un un_neg pe_int) (fun _ _ => rfl)) pe_int) (pe_cd D__law_sip (hr.mono (by decide)) (by rfl) (pa_cons (pv 0) (pa_cons pe_int pa_nil)))) pa_nil))))
  (pss_one (ps_if (PW.pt (pw_or (pt_cmpR op_ne (pe_cd D_table_count (hr.mono (by decide)) (by rfl) (pa_cons (pv 2) (pa_cons (pv 10) pa_nil))) pe_int (nomark _)) (pw_or1 (pt_cmpR (r := rNeD K) (op_neD hr.units) (pe_cd D_tables_with (hr.mono (by decide)) (by rfl) (pa_cons (pv 2) (pa_cons (pv 10) pa_nil))) (pe_tup pa_nil) (nomark _))))) (pss_one (ps_ret pe_bl)) pss_nil)))))))))))))))
  (pss_one (ps_ret (pe_cmpR (r := rEqD K) (op_eqD hr.units) (pe_lst (pa_cons (pe_cd D_table_count (hr.mono (by decide)) (by rfl) (pa_cons (pe_tup pa_nil) (pa_cons (pe_tup pa_nil) pa_nil))) (pa_cons (pe_callB (r := rLenQ K) call_len_seq (by rfl) B.b_len (by decide +kernel) (pa_cons (pe_cd D_tables_with (hr.mono (by decide)) (by rfl) (pa_cons (pe_tup pa_nil) (pa_cons (pe_tup pa_nil) pa_nil))) pa_nil)) pa_nil))) (pe_lst (pa_cons pe_int (pa_cons pe_int pa_nil))) (nomark _))))), fun vs Q ⟨p, ev, V, q⟩ => by
  subst ev
  refine q_forM [p] (fun a ha => by rw [List.mem_singleton.mp ha]; exact V.fix) (Ei.of (its := List.range 2) (by have := ei_rng1 (j := 2) (ok := (· ∉ [p])) (σ := L2.start N__law_right [.ref p]) (H := H) (te := tC (.int 2)) (by decide) ed_int; exact this)) (fun i σ' H' => (∃ x1 x2 x3 x4 x5 x6 x7 x8 x9 x10, σ' = [some (.ref p), x1, x2, x3, x4, x5, x6, x7, x8, x9, x10, none, none, none]) ∧ Vat p H') (fun H' e' => ⟨⟨none, none, none, none, none, none, none, none, none, none, rfl⟩, V.up e'⟩) ?_ ?_
  · rintro i r hi x σ1 H3 H4 s3 ⟨⟨x1, x2, x3, x4, x5, x6, x7, x8, x9, x10, rfl⟩, V3⟩ s4 tx Nx n
    have V4 := V3.up s4
    refine q_form (i := 2) rfl V4 fun n0 form hn hf vf H5 s5 V5 t5 => ?_
    obtain ⟨hok, hsum, hall⟩ := pair_good hn hf
    refine q_two rfl V5 rfl t5 hok fun ql xx yy zz ll vs H6 hx hy hz hl hs s6 V6 l6 t6 => ?_
    have G := hall xx yy zz ll hx hy hz hl hs
    generalize hsm : ([xx, yy, zz, ll] : List Int) = sums at t6 G
    have hs10 : xx + yy + zz + ll ≤ 6 := by omega
    have ham : amOk sums = true := by rw [← hsm]; exact amOk4 hx hy hz hl (by omega)
    have hlen4 : sums.length = 4 := by rw [← hsm]; rfl
    have hssum : sums.sum = form.sum := by rw [← hsm]; simp; omega
    have t5' : Tp H6 vf (pT form) := t5.kp (V5.kp s6)
    have c46 : Same (dels H4 [p]) H6 := Same.dels_trans s5 s6
    obtain ⟨ts0, e0, p0⟩ := srt_map pR (dueU form sums)
    have hlen := p0.length_eq
    have hsmall := G.small
    -- due
    refine q_set (P := Li (ts0.map pR)) ?_ fun x5' H7 e7 l7 => ?_
    · rw [← e0]
      exact el_sortD (Eln.el (eln_filter (its := listed form) pR (fun rs => decide (content rs = sums)) (Nat.le_trans (ls_num hok (Nat.le_refl _)) (by decide)) (Ei.of (g := pR) (ei_list (el_var rfl l6))) fun rs hm x' H6' e6' r => hb_name rfl ⟨et_test (ed_eqT (em_call rs (by
        have lk := ls_ok hok form.length (Nat.le_refl _)
        have := lk.len rs hm
        have := shOk_len hok
        exact ⟨by omega, lk.row rs hm⟩) (ea_cons (ed_var rfl r) (ea_cons ed_int ea_nil))) (ed_var rfl (t6.up e6'))), fun _ => ed_var rfl r⟩)) (srtb_R G.ne)
    obtain ⟨qd, rfl, l7⟩ := l7
    have t57 := t5'.up e7
    have t67 := t6.up e7
    -- told
    refine q_set (P := Li [.int ((dueU form sums).length : Int), .int ((dueU form sums).length : Int)]) (Eln.el (eln_lst (by show (2 : Nat) ≤ 100000; decide) (ea_cons (em_call (form, sums, ((dueU form sums).length : Int)) ⟨hok, ham, by simp only; rw [if_pos hssum]; exact G.count⟩ (ea_cons (ed_var rfl t57) (ea_cons (ed_var rfl t67) ea_nil))) (ea_cons (em_kcall (form, sums, ((dueU form sums).length : Int)) rfl ⟨hok, ham, by simp only; rw [if_pos hssum]; exact G.count⟩ (ea_cons (ed_var rfl t67) (ea_cons (ed_var rfl t57) ea_nil))) ea_nil)))) fun x6' H8 e8 l8 => ?_
    obtain ⟨q6, rfl, l8⟩ := l8
    have l78 := l7.up e8
    have t58 := t57.up e8
    have t68 := t67.up e8
    have w2 := two_ok hsmall
    simp only [twoOk, Bool.and_eq_true, decide_eq_true_eq, Bool.not_eq_true'] at w2
    obtain ⟨⟨⟨w21, w22⟩, w23⟩, w24⟩ := w2
    have hcl : ((ts0.map pR).length : Int) = ((dueU form sums).length : Int) := by rw [List.length_map, hlen]
    refine q_ifF (et_is (et_test (ed_neStr (em_repr (el_var rfl l8) w21 w22 w23 w24) (em_repr (Eln.el (eln_is (eln_rep (j := 2) (ds := [.int ((dueU form sums).length : Int)]) (by decide) (by simp) (Eln.el (eln_lst (by simp) (ea_cons (ed_is (ed_lenL (el_var rfl l78)) (congrArg _ hcl)) ea_nil))) ed_int) (by rfl))) w21 w22 w23 w24))) (by simp)) fun H9 e9 => ?_
    have l79 := l78.up e9
    have t59 := t58.up e9
    have t69 := t68.up e9
    have hts : srt ((tabs form sums).map pR) = ts0.map pR := by
      unfold tabs
      rw [if_pos hssum, srt_perm G.perm, e0]
    have one : ∀ (v : L2.V) (H' : Hp), (∃ ts, srt ((tabs form sums).map pR) = ts.map pR ∧ IsTabs C ts v H') → IsTabs C ts0 v H' := fun v H' ⟨ts, h1, h2⟩ => by
      rw [hts] at h1
      rw [map_inj (fun _ _ h => pR_inj h) h1]
      exact h2
    -- the tables
    refine q_for (ei_lst2 (R := IsTabs C ts0) (fun H H' v k h => tabs_mono k h) (Em.imp (em_call (form, sums) ⟨hok, ham, by simp only; omega, G.tabs⟩ (ea_cons (ed_var rfl t59) (ea_cons (ed_var rfl t69) ea_nil))) fun v H' _ h => one v H' h) (Em.imp (em_kcall (form, sums) rfl ⟨hok, ham, by simp only; omega, G.tabs⟩ (ea_cons (ed_var rfl t69) (ea_cons (ed_var rfl t59) ea_nil))) fun v H' _ h => one v H' h))
      (fun i σ' H' => ∃ y7, σ' = [some (.ref p), some x, some vf, some (.ref ql), some vs, some (.ref qd), some (.ref q6), y7, x8, x9, x10, none, none, none]) (fun H' _ => ⟨x7, rfl⟩) ?_ ?_
    · rintro j d hj v7 σ2 H10 H11 s10 ⟨y7, rfl⟩ s11 tv Nx2 n2
      have e911 := s10.trans s11
      have pl : plain (.list (ts0.map pR)) = true := by simp only [plain]; exact plain_Rs ts0
      have shp : SeqAt.shaped (.list (ts0.map pR)) = true := shaped_LR _ fun d hd => by obtain ⟨r, _, rfl⟩ := List.mem_map.mp hd; exact ⟨r, rfl⟩
      refine q_ifF (et_or (b := false) (c := false) (et_not (b := true) (et_B (ed_isiTabs (em_var rfl up_Tabs tv)))) fun _ => et_is (et_test (ed_neLL (ds := ts0.map pR) (es := ts0.map pR) (Eln.el (eln_map (its := ts0) pR (by omega) (ei_tabs (em_var rfl up_Tabs tv)) fun t ht x' H' e' r' => hb_name rfl (ed_rows (em_var rfl up_Tb r')))) (el_var rfl (l79.up e911)) shp shp)) (by rw [eqv_self pl]; rfl)) fun H12 e12 => ?_
      have hfn : ts0.filterMap (fun _ => (none : Option PyData)) = [] := by simp
      have tv12 : IsTabs C ts0 v7 H12 := up_Tabs _ _ _ e12 tv
      refine s_ifF (et_is (et_test (ed_neLL (ds := []) (es := []) (Eln.el (eln_is (eln_lc (its := ts0) (fun _ => (none : Option PyData)) (by rw [hfn]; decide) (ei_tabs (em_var rfl up_Tabs tv12)) fun t ht x' H' e' r' => hb_name rfl (.inl ⟨rfl, ?_⟩)) hfn)) (Eln.el (eln_lst (by decide) ea_nil)) (by decide) (by decide))) (by decide)) fun H13 e13 => n2 _ H13 (e12.trans e13) ⟨_, rfl⟩
      have htr : t ∈ rowsFilled form sums := G.perm.mem_iff.mpr (p0.mem_iff.mp ht)
      have hsh := G.shape t htr
      have htl : t.length ≤ 6 := by
        have := congrArg List.length hsh
        rw [List.length_map] at this
        have := shOk_len hok
        omega
      exact et_or (b := false) (c := false) (et_not (b := true) (et_B (ed_isiC T (em_var rfl up_Tb r')))) fun _ => et_is (et_test (ed_neT (ed_shape (em_var rfl up_Tb r') (by omega)) (ed_var rfl (t59.up ((e911.trans e12).trans e')))) ) (by rw [hsh]; simp)
    · rintro σ' H10 s10 ⟨y7, rfl⟩
      have c410 : Same (dels H4 [p]) H10 := Same.dels_trans c46 (Same.to_dels (((e7.trans e8).trans e9).trans s10))
      have V10 : Vat p H10 := (((V6.up e7).up e8).up e9).up s10
      have l10 := l79.up s10
      have t510 := t59.up s10
      have t610 := t69.up s10
      -- mixed
      refine q_setN (eln_list (ed_var rfl t610)) fun pm H11 hpm e11 l11 => ?_
      obtain ⟨xs, k1, k2⟩ := l11
      rw [k2.ints, ← hsm] at k1
      have V11 := V10.up e11
      have hpmp : pm ≠ p := fun z => by obtain ⟨o, ho, _⟩ := V10.fix; rw [z, ho] at hpm; cases hpm
      have h4pm : H4 pm = none := by
        cases h : H4 pm with
        | none => rfl
        | some o => have := c410 pm o (by rw [dels_some (by simpa using hpmp)]; exact h); rw [hpm] at this; cases this
      have l11d := l10.up e11
      have hqdp : qd ≠ p := ls_ne_vat V11 l11d fun d hd => by obtain ⟨r, _, rfl⟩ := List.mem_map.mp hd; exact ⟨r, rfl⟩
      have hqdm : qd ≠ pm := fun z => by obtain ⟨xs, h, _⟩ := l10; rw [z, hpm] at h; cases h
      refine q_mix rfl V11 rfl k1 hpmp fun rr H12 hr s12 V12 lm => ?_
      rw [hsm] at lm
      obtain ⟨o11, ho11, hf11⟩ := V11.fix
      have kp12 : Kp H11 H12 := kp_dels (fun a ha => by
        rcases List.mem_cons.mp ha with rfl | ha
        · exact ⟨_, ho11, hf11⟩
        · rw [List.mem_singleton.mp ha]; exact ⟨_, k1, rfl⟩) s12
      have c412 : Same (dels H4 [p]) H12 := dels_drop (Same.dels_trans c410 (Same.to_dels e11)) h4pm s12
      have l12 := ls_dels2 ho11 hf11 k1 rfl s12 hqdp hqdm l11d
      have t512 := (t510.up e11).kp kp12
      have t612 := (t610.up e11).kp kp12
      have hmix : amOk (mix rr sums) = true ∧ (mix rr sums).sum = form.sum := by
        rw [← hsm]
        have hr4 : rr = 0 ∨ rr = 1 ∨ rr = 2 ∨ rr = 3 := by omega
        rcases hr4 with rfl | rfl | rfl | rfl <;> refine ⟨amOk4 (by omega) (by omega) (by omega) (by omega) (by omega), ?_⟩ <;> simp [mix] <;> omega
      have hmore : amOk (sums ++ [0, 0]) = true ∧ (sums ++ [0, 0]).sum = form.sum := by
        rw [← hsm]
        refine ⟨by simp [amOk]; omega, by simp; omega⟩
      have lenE : ∀ H', Same H12 H' → ∀ σ, σ[5]? = some (some (L2.V.ref qd)) → Ed (tCB (rLenQ K) (tCons (tVar 5) tNil)) σ H' (.int ((dueU form sums).length : Int)) := fun H' e' σ h => ed_is (ed_lenL (el_var h (l12.up e'))) (congrArg _ hcl)
      refine q_ifF (et_or (b := false) (c := false) (et_is (et_test (ed_neI (em_call (form, mix rr sums, ((dueU form sums).length : Int)) ⟨hok, hmix.1, by simp only; rw [if_pos hmix.2]; exact G.mix rr hr⟩ (ea_cons (ed_var rfl t512) (ea_cons (ed_tuple (el_var rfl lm)) ea_nil))) (lenE _ (.refl _) _ rfl))) (by simp)) fun _ => et_is (et_test (ed_neI (em_call (form, sums ++ [0, 0], ((dueU form sums).length : Int)) ⟨hok, hmore.1, by simp only; rw [if_pos hmore.2]; exact G.more⟩ (ea_cons (ed_var rfl t512) (ea_cons (ed_is (ed_cat (ds := sums.map .int) (es := [.int 0, .int 0]) (by rw [List.length_map, hlen4]; simp) (ed_var rfl t612) (ed_tup (by show (2 : Nat) ≤ 100000; decide) (ea_cons ed_int (ea_cons ed_int ea_nil)))) (by simp [pT])) ea_nil))) (lenE _ (.refl _) _ rfl))) (by simp)) fun H13 e13 => ?_
      -- ordered
      refine q_set (P := Dt (pT (ascOf sums).reverse)) (ed_is (ed_tuple (el_revL (el_sortI G.ascP G.asc (by have := List.length_filter_le (fun n => decide (0 < n)) sums; omega) (Eln.el (eln_filter (its := sums) PyData.int (fun n => decide (0 < n)) (by omega) (Ei.of (ei_tup (ed_var rfl (t612.up e13)))) fun m hm x' H' e' r' => hb_name rfl ⟨et_test (ed_gt (ed_var rfl r') ed_int), fun _ => ed_var rfl r'⟩))))) (by unfold pT; rw [List.map_reverse])) fun x9' H14 e14 t9 => ?_
      have e1214 := e13.trans e14
      have hord : form.sum = (ascOf sums).reverse.sum := G.ordSum.symm
      refine q_ifF (et_is (et_test (ed_neB (em_call (form, (ascOf sums).reverse) ⟨hok, G.ordOk, hord⟩ (ea_cons (ed_var rfl (t512.up e1214)) (ea_cons (ed_var rfl t9) ea_nil))) (ed_gt (lenE _ e1214 _ rfl) ed_int))) (by rw [G.heavy]; simp)) fun H15 e15 => ?_
      have e1215 := e1214.trans e15
      have V15 := V12.up e1215
      have t615 : Tp H15 vs (pT [xx, yy, zz, ll]) := by rw [hsm]; exact t612.up e1215
      refine q_other rfl V15 rfl t615 fun ro v10 H16 r0 r1 s16 V16 t16 => ?_
      have t516 : Tp H16 vf (pT form) := (t512.up e1215).kp (V15.kp s16)
      have hns : ¬ ([xx, yy, zz, ll + 1 + ro] : List Int).sum = form.sum := by simp; omega
      have hao : amOk [xx, yy, zz, ll + 1 + ro] = true := amOk4 hx hy hz (by omega) (by omega)
      have c416 : Same (dels H4 [p]) H16 := Same.dels_trans c412 (dels_step e1215 s16)
      refine s_ifF (et_or (b := false) (c := false) (et_is (et_test (ed_neI (em_call (form, [xx, yy, zz, ll + 1 + ro], (0 : Int)) ⟨hok, hao, by simp only; rw [if_neg hns]⟩ (ea_cons (ed_var rfl t516) (ea_cons (ed_var rfl t16) ea_nil))) ed_int)) (by simp)) fun _ => et_is (et_test (ed_neT (a := []) (b := []) (Em.imp (em_call (form, [xx, yy, zz, ll + 1 + ro]) ⟨hok, hao, by show (4 : Nat) ≤ 6; decide, by unfold tabsOk; rw [if_neg hns]⟩ (ea_cons (ed_var rfl t516) (ea_cons (ed_var rfl t16) ea_nil))) fun v H' _ ⟨ts, h1, h2⟩ => ?_) (ed_tup (ds := []) (by show (0 : Nat) ≤ 100000; decide) ea_nil))) (by simp)) fun H17 e17 => n _ H17 (Same.dels_trans c416 (Same.to_dels e17)) ⟨⟨_, _, _, _, _, _, _, _, _, _, rfl⟩, V16.up e17⟩
      unfold tabs at h1
      simp only [if_neg hns, List.map_nil] at h1
      rw [srt_short (by simp)] at h1
      have : ts = [] := by simpa using h1.symm
      subst this
      exact tabs_nil h2
  · rintro σ' H' s' ⟨⟨x1, x2, x3, x4, x5, x6, x7, x8, x9, x10, rfl⟩, V'⟩
    have A : Ea (tCons (tTup tNil) (tCons (tTup tNil) tNil)) [some (.ref p), x1, x2, x3, x4, x5, x6, x7, x8, x9, x10, none, none, none] H' (Da [pT [], pT []]) := ea_cons (ed_tup (ds := []) (by show (0 : Nat) ≤ 100000; decide) ea_nil) (ea_cons (ed_tup (ds := []) (by show (0 : Nat) ≤ 100000; decide) ea_nil) ea_nil)
    refine s_ret (ed_is (ed_eqLL (ds := [.int 1, .int 1]) (es := [.int 1, .int 1]) (Eln.el (eln_lst (by show (2 : Nat) ≤ 100000; decide) (ea_cons (em_call ([], [], (1 : Int)) ⟨by decide, by decide, by decide +kernel⟩ A) (ea_cons (ed_is (ed_lenTabs (C := C) (ts := [[]]) (Em.imp (em_call ([], []) ⟨by decide, by decide, by decide, by decide +kernel⟩ A) fun v H2 _ ⟨ts, h1, h2⟩ => ?_)) rfl) ea_nil)))) (Eln.el (eln_lst (by show (2 : Nat) ≤ 100000; decide) (ea_cons ed_int (ea_cons ed_int ea_nil)))) (by decide +kernel) (by decide +kernel)) (congrArg PyData.bool (eqv_self (d := .list [.int 1, .int 1]) (by decide)))) fun z H2 e2 tz => ?_
    · have : tabs [] [] = [[]] := by decide +kernel
      rw [this, srt_short (by simp)] at h1
      have : ts = [[]] := map_inj (fun _ _ h => pR_inj h) h1.symm
      subst this
      exact h2
    · rw [Tp.ofBl tz]
      exact q H2 (Same.dels_trans s' (Same.to_dels e2))⟩
end
end WS
/-! WsX: law; all defs together. -/
namespace WS
open PySem PySem.Spec PyProof.Rows L2
section
variable {P : Program} {w : World} {K : PySem.W.Frag} {mg : PySem.Str → Option Value} {base : Heap} {C : Addr}
abbrev s_law : Stmt := topS 66
abbrev N_law : List PySem.Str := ["_law_script", "_law_turn"]
theorem sc_law : FnScope N_law ["_law_script"] (defScope s_law) := ⟨rfl, rfl, rfl, by decide +kernel, rfl, by decide +kernel, by decide +kernel⟩
def S_law (K : PySem.W.Frag) : Sp := fun vs H Q _ => ∃ (p : Addr) (ns : List Int), vs = [.ref p] ∧ SqL K H p (ns.map V.int) ∧ ∀ H', Q (.bl true) H'
theorem d_law (B : Bt mg) (D__law_vat_of : Dv P w K mg base "_law_vat_of" 1 ["_law_script", "_law_turn"] (S_vat_of K)) (D__law_right : DvG P w K mg base "_law_right" 11 ["_law_vat"] S_right) (M : Md K mg "law" s_law) : DvG P w K mg base "law" 12 ["_law_script"] (S_law K) :=
  dvg_mk M sc_law (fun _ _ _ _ _ _ us hl => match us, hl with | [_], _ => rfl) (fun vs H Q E ⟨_, _, e, _⟩ => by rw [e]; rfl) fun f cdv A outer s H E gd hr => ⟨_,
(pss_one (ps_ret (pe_callB (r := rAll K) (cr_all rfl) (by rfl) B.b_all (by decide +kernel) (pa_cons (pe_lc (own := [("_law_turn", 1)]) rfl sc_law.nd (pi_range1 (by rfl) B.b_range (pa_cons (pe_callB (call_max2 rfl) (by rfl) B.b_max (by decide +kernel) (pa_cons pe_int (pa_cons (pe_callB (call_min2 rfl) (by rfl) B.b_min (by decide +kernel) (pa_cons (pe_callB (r := rLenQ K) call_len_seq (by rfl) B.b_len (by decide +kernel) (pa_cons (pv 0) pa_nil)) (pa_cons pe_int pa_nil))) pa_nil))) pa_nil)) (blkOk_by (own := [("_law_turn", 1)]) (N := N_law) (sc := defScope s_law) (by decide +kernel)) (fun _ _ _ _ _ => (pg_name (i := 1) sc_law.nd rfl (Or.inl rfl))) (fun _ _ _ _ _ => pts_nil) (fun _ _ _ _ _ => (pe_cg D__law_right gd (hr.mono (by decide)) (by rfl) (pa_cons (pe_cd D__law_vat_of (hr.mono (by decide)) (by rfl) (pa_cons (pv 0) (pa_cons (pv 1) pa_nil))) pa_nil)))) pa_nil)))), fun vs Q ⟨p, ns, ev, hs, q⟩ => by
  subst ev
  have hm : ∀ j : Nat, j < (max 2 (min (ns.length : Int) 5)).toNat → (j : Int) ≤ 5 := fun j hj => by omega
  refine s_ret (ed_is (d1 := .bool true) (ed_all (bs := (List.range (max 2 (min (ns.length : Int) 5)).toNat).map fun _ => true) (Eln.el (eln_is (eln_map (its := List.range (max 2 (min (ns.length : Int) 5)).toNat) (fun _ => .bool true) (by rw [List.length_range]; omega) (Ei.of (ei_rng1 (by omega) (ed_max ed_int (ed_min (ed_lenS rfl hs) ed_int)))) fun j hj x H1 e r => hb_name rfl ?_) (by rw [List.map_map]; rfl)))) (by simp)) fun v H' _ tv => by rw [Tp.ofBl tv]; exact q H'
  cases Tp.ofInt r
  have h5 := hm j (List.mem_range.mp hj)
  exact fun H2 e2 Q' q' => ⟨_, rfl, _, rfl, p, (j : Int), ns, rfl, (e.trans e2).seq hs, by omega, by omega, fun a H3 ha e3 V3 => ⟨a, rfl, V3, fun H4 e4 => q' _ H4 (Same.of_dels e3 (fun b hb => by rw [List.mem_singleton.mp hb]; exact ha) e4) (Tp.bl true)⟩⟩⟩
/-- all defs of the module that the law reaches -/
structure All (K : PySem.W.Frag) (mg : PySem.Str → Option Value) (C : Addr) : Prop where
  b : Bt mg
  t : Tb K mg C
  m1 : Md K mg "is_number" s_is_number
  m2 : Md K mg "is_shape" s_is_shape
  m3 : Md K mg "check_shape" s_check_shape
  m4 : Md K mg "trimmed" s_trimmed
  m5 : Md K mg "sums_along" s_sums_along
  m6 : Md K mg "lighter_at" s_lighter_at
  m7 : Md K mg "check_sizes" s_check_sizes
  m8 : Md K mg "heavier" s_heavier
  m9 : Md K mg "is_integer" s_is_integer
  m10 : Md K mg "is_within" s_is_within
  m11 : Md K mg "is_letter" s_is_letter
  m12 : Md K mg "is_word" s_is_word
  m13 : Md K mg "does_rise" s_does_rise
  m14 : Md K mg "is_filled_row" s_is_filled_row
  m15 : Md K mg "are_rows" s_are_rows
  m16 : Md K mg "shape_of" s_shape_of
  m17 : Md K mg "are_amounts" s_are_amounts
  m18 : Md K mg "check_amounts" s_check_amounts
  m19 : Md K mg "parts_below" s_parts_below
  m20 : Md K mg "tables_counted" s_tables_counted
  m21 : Md K mg "table_count" s_table_count
  m22 : Md K mg "with_letters" s_with_letters
  m23 : Md K mg "rows_filled" s_rows_filled
  m24 : Md K mg "tables_with" s_tables_with
  m25 : Md K mg "_law_vat_of" s__law_vat_of
  m26 : Md K mg "_law_sip" s__law_sip
  m27 : Md K mg "_law_dip" s__law_dip
  m28 : Md K mg "_law_forms" s__law_forms
  m29 : Md K mg "_law_form" s__law_form
  m30 : Md K mg "_law_lines" s__law_lines
  m31 : Md K mg "_law_listed" s__law_listed
  m32 : Md K mg "_law_content" s__law_content
  m33 : Md K mg "_law_sums" s__law_sums
  m34 : Md K mg "_law_right" s__law_right
/-- the law's def, over every base -/
theorem law_all (A : All K mg C) (M : Md K mg "law" s_law) : DvG P w K mg base "law" 12 ["_law_script"] (S_law K) := by
  have B := A.b
  have T := A.t
  have D1 := d_is_number (P := P) (w := w) (base := base) B A.m1
  have D2 := d_is_shape B D1 A.m2
  have D3 := d_check_shape B D2 A.m3
  have D4 := d_trimmed (P := P) (w := w) (base := base) B A.m4
  have D5 := d_sums_along (P := P) (w := w) (base := base) B A.m5
  have D6 := d_lighter_at B D5 A.m6
  have D7 := d_check_sizes B D3 A.m7
  have D8 := d_heavier B D7 D6 A.m8
  have D9 := d_is_integer (P := P) (w := w) (base := base) B A.m9
  have D10 := d_is_within B D9 A.m10
  have D11 := d_is_letter B D10 A.m11
  have D12 := d_is_word B D11 A.m12
  have D13 := d_does_rise (P := P) (w := w) (base := base) B A.m13
  have D14 := d_is_filled_row B D12 A.m14
  have D15 := d_are_rows B D14 D13 A.m15
  have D16 := d_shape_of (P := P) (w := w) (base := base) B A.m16
  have D17 := d_are_amounts (P := P) (w := w) (base := base) B A.m17
  have D18 := d_check_amounts B D17 A.m18
  have D19 := d_parts_below B D4 A.m19
  have D20 := d_tables_counted B D19 A.m20
  have D21 := d_table_count B D3 D18 D20 A.m21
  have D22 := d_with_letters (P := P) (w := w) (base := base) B A.m22
  have D23 := d_rows_filled B D19 D22 A.m23 7
  have DI := d_init B T D15
  have DR := d_rows (P := P) (w := w) (base := base) B T
  have DS := d_shape B T D16
  have D24 := d_tables_with B T D3 D18 D20 D23 DI A.m24
  have D25 := d_vat_of (P := P) (w := w) (base := base) B A.m25
  have D26 := d_sip (P := P) (w := w) (base := base) B A.m26
  have D27 := d_dip B D26 A.m27
  have D28 := d_forms (P := P) (w := w) (base := base) B A.m28
  have D29 := d_form B D26 D27 D28 A.m29
  have D30 := d_lines (P := P) (w := w) (base := base) B A.m30
  have D31 := d_listed B D30 A.m31
  have D32 := d_content (P := P) (w := w) (base := base) B A.m32
  have D33 := d_sums B D26 A.m33
  have D34 := d_right B T D26 D29 D31 D33 D32 D21 (dk_of A.m21 kb_table_count D21) D24 (dk_of A.m24 kb_tables_with D24) D8 DR DS A.m34
  exact d_law B D25 D34 M
end
end WS
/-! WsY: what the top has written, and the law's end. -/
namespace WS
open PySem PySem.Spec PyProof.Rows L2
theorem facts {l : PySem.W.OpenLaw} {w : World} {K : PySem.W.Frag} {h : Heap} {mg : PySem.Str → Option Value} {fa C f1 f2 f3 f4 f5 f6 f7 f8 f9 f10 f11 f12 f13 f14 f15 f16 f17 f18 f19 f20 f21 f22 f23 f24 f25 f26 f27 f28 f29 f30 f31 f32 f33 f34 f35 fI pR fR pS fS : Addr} {od1 an1 od2 an2 od3 an3 od4 an4 od5 an5 od6 an6 od7 an7 od8 an8 od9 an9 od10 an10 od11 an11 od12 an12 od13 an13 od14 an14 od15 an15 od16 an16 od17 an17 od18 an18 od19 an19 od20 an20 od21 an21 od22 an22 od23 an23 od24 an24 od25 an25 od26 an26 od27 an27 od28 an28 od29 an29 od30 an30 od31 an31 od32 an32 od33 an33 od34 an34 od35 an35 odI anI odR anR odS anS : Option Addr} {sl1 sl2 sl3 sl4 sl5 sl6 sl7 sl8 sl9 sl10 sl11 sl12 sl13 sl14 sl15 sl16 sl17 sl18 sl19 sl20 sl21 sl22 sl23 sl24 sl25 sl26 sl27 sl28 sl29 sl30 sl31 sl32 sl33 sl34 sl35 slI slR slS : Array (Option Value)} {oc1 kV1 dc1 pm1 cd1 ct1 oc2 kV2 dc2 pm2 cd2 ct2 oc3 kV3 dc3 pm3 cd3 ct3 oc4 kV4 dc4 pm4 cd4 ct4 oc5 kV5 dc5 pm5 cd5 ct5 oc6 kV6 dc6 pm6 cd6 ct6 oc7 kV7 dc7 pm7 cd7 ct7 oc8 kV8 dc8 pm8 cd8 ct8 oc9 kV9 dc9 pm9 cd9 ct9 oc10 kV10 dc10 pm10 cd10 ct10 oc11 kV11 dc11 pm11 cd11 ct11 oc12 kV12 dc12 pm12 cd12 ct12 oc13 kV13 dc13 pm13 cd13 ct13 oc14 kV14 dc14 pm14 cd14 ct14 oc15 kV15 dc15 pm15 cd15 ct15 oc16 kV16 dc16 pm16 cd16 ct16 oc17 kV17 dc17 pm17 cd17 ct17 oc18 kV18 dc18 pm18 cd18 ct18 oc19 kV19 dc19 pm19 cd19 ct19 oc20 kV20 dc20 pm20 cd20 ct20 oc21 kV21 dc21 pm21 cd21 ct21 oc22 kV22 dc22 pm22 cd22 ct22 oc23 kV23 dc23 pm23 cd23 ct23 oc24 kV24 dc24 pm24 cd24 ct24 oc25 kV25 dc25 pm25 cd25 ct25 oc26 kV26 dc26 pm26 cd26 ct26 oc27 kV27 dc27 pm27 cd27 ct27 oc28 kV28 dc28 pm28 cd28 ct28 oc29 kV29 dc29 pm29 cd29 ct29 oc30 kV30 dc30 pm30 cd30 ct30 oc31 kV31 dc31 pm31 cd31 ct31 oc32 kV32 dc32 pm32 cd32 ct32 oc33 kV33 dc33 pm33 cd33 ct33 oc34 kV34 dc34 pm34 cd34 ct34 oc35 kV35 dc35 pm35 cd35 ct35 ocI kVI dcI pmI cdI ctI ocR kVR dcR pmR cdR ctR ocS kVS dcS pmS cdS ctS : Value} {restR restS : List Value} {tk_MOST_LETTER tk_MOST_LONG tk_MOST_BOXES tk_MOST_LISTED : Tok} (X : K.In h) (G : h.Ns mainGlobals mg) (hfa : mg "law" = some (.ref fa))
    (a1 : PySem.W.nsIn K mainGlobals "is_number" = some (some (.ref f1)))
    (l1 : K.lookup f1 = some ⟨oc1, od1, .func (PySem.W.fnOf "is_number" "is_number" (defArgs s_is_number) (defBody s_is_number) (defScope s_is_number) .none kV1 dc1 pm1 an1 cd1 ct1), sl1⟩)
    (c1 : PySem.W.codeIn K cd1 "is_number" = true)
    (k1 : PySem.W.keepIn K (.ref f1) = true)
    (a2 : PySem.W.nsIn K mainGlobals "is_shape" = some (some (.ref f2)))
    (l2 : K.lookup f2 = some ⟨oc2, od2, .func (PySem.W.fnOf "is_shape" "is_shape" (defArgs s_is_shape) (defBody s_is_shape) (defScope s_is_shape) .none kV2 dc2 pm2 an2 cd2 ct2), sl2⟩)
    (c2 : PySem.W.codeIn K cd2 "is_shape" = true)
    (k2 : PySem.W.keepIn K (.ref f2) = true)
    (a3 : PySem.W.nsIn K mainGlobals "check_shape" = some (some (.ref f3)))
    (l3 : K.lookup f3 = some ⟨oc3, od3, .func (PySem.W.fnOf "check_shape" "check_shape" (defArgs s_check_shape) (defBody s_check_shape) (defScope s_check_shape) .none kV3 dc3 pm3 an3 cd3 ct3), sl3⟩)
    (c3 : PySem.W.codeIn K cd3 "check_shape" = true)
    (k3 : PySem.W.keepIn K (.ref f3) = true)
    (a4 : PySem.W.nsIn K mainGlobals "trimmed" = some (some (.ref f4)))
    (l4 : K.lookup f4 = some ⟨oc4, od4, .func (PySem.W.fnOf "trimmed" "trimmed" (defArgs s_trimmed) (defBody s_trimmed) (defScope s_trimmed) .none kV4 dc4 pm4 an4 cd4 ct4), sl4⟩)
    (c4 : PySem.W.codeIn K cd4 "trimmed" = true)
    (k4 : PySem.W.keepIn K (.ref f4) = true)
    (a5 : PySem.W.nsIn K mainGlobals "sums_along" = some (some (.ref f5)))
    (l5 : K.lookup f5 = some ⟨oc5, od5, .func (PySem.W.fnOf "sums_along" "sums_along" (defArgs s_sums_along) (defBody s_sums_along) (defScope s_sums_along) .none kV5 dc5 pm5 an5 cd5 ct5), sl5⟩)
    (c5 : PySem.W.codeIn K cd5 "sums_along" = true)
    (k5 : PySem.W.keepIn K (.ref f5) = true)
    (a6 : PySem.W.nsIn K mainGlobals "lighter_at" = some (some (.ref f6)))
    (l6 : K.lookup f6 = some ⟨oc6, od6, .func (PySem.W.fnOf "lighter_at" "lighter_at" (defArgs s_lighter_at) (defBody s_lighter_at) (defScope s_lighter_at) .none kV6 dc6 pm6 an6 cd6 ct6), sl6⟩)
    (c6 : PySem.W.codeIn K cd6 "lighter_at" = true)
    (k6 : PySem.W.keepIn K (.ref f6) = true)
    (a7 : PySem.W.nsIn K mainGlobals "check_sizes" = some (some (.ref f7)))
    (l7 : K.lookup f7 = some ⟨oc7, od7, .func (PySem.W.fnOf "check_sizes" "check_sizes" (defArgs s_check_sizes) (defBody s_check_sizes) (defScope s_check_sizes) .none kV7 dc7 pm7 an7 cd7 ct7), sl7⟩)
    (c7 : PySem.W.codeIn K cd7 "check_sizes" = true)
    (k7 : PySem.W.keepIn K (.ref f7) = true)
    (a8 : PySem.W.nsIn K mainGlobals "heavier" = some (some (.ref f8)))
    (l8 : K.lookup f8 = some ⟨oc8, od8, .func (PySem.W.fnOf "heavier" "heavier" (defArgs s_heavier) (defBody s_heavier) (defScope s_heavier) .none kV8 dc8 pm8 an8 cd8 ct8), sl8⟩)
    (c8 : PySem.W.codeIn K cd8 "heavier" = true)
    (k8 : PySem.W.keepIn K (.ref f8) = true)
    (a9 : PySem.W.nsIn K mainGlobals "is_integer" = some (some (.ref f9)))
    (l9 : K.lookup f9 = some ⟨oc9, od9, .func (PySem.W.fnOf "is_integer" "is_integer" (defArgs s_is_integer) (defBody s_is_integer) (defScope s_is_integer) .none kV9 dc9 pm9 an9 cd9 ct9), sl9⟩)
    (c9 : PySem.W.codeIn K cd9 "is_integer" = true)
    (k9 : PySem.W.keepIn K (.ref f9) = true)
    (a10 : PySem.W.nsIn K mainGlobals "is_within" = some (some (.ref f10)))
    (l10 : K.lookup f10 = some ⟨oc10, od10, .func (PySem.W.fnOf "is_within" "is_within" (defArgs s_is_within) (defBody s_is_within) (defScope s_is_within) .none kV10 dc10 pm10 an10 cd10 ct10), sl10⟩)
    (c10 : PySem.W.codeIn K cd10 "is_within" = true)
    (k10 : PySem.W.keepIn K (.ref f10) = true)
    (a11 : PySem.W.nsIn K mainGlobals "is_letter" = some (some (.ref f11)))
    (l11 : K.lookup f11 = some ⟨oc11, od11, .func (PySem.W.fnOf "is_letter" "is_letter" (defArgs s_is_letter) (defBody s_is_letter) (defScope s_is_letter) .none kV11 dc11 pm11 an11 cd11 ct11), sl11⟩)
    (c11 : PySem.W.codeIn K cd11 "is_letter" = true)
    (k11 : PySem.W.keepIn K (.ref f11) = true)
    (a12 : PySem.W.nsIn K mainGlobals "is_word" = some (some (.ref f12)))
    (l12 : K.lookup f12 = some ⟨oc12, od12, .func (PySem.W.fnOf "is_word" "is_word" (defArgs s_is_word) (defBody s_is_word) (defScope s_is_word) .none kV12 dc12 pm12 an12 cd12 ct12), sl12⟩)
    (c12 : PySem.W.codeIn K cd12 "is_word" = true)
    (k12 : PySem.W.keepIn K (.ref f12) = true)
    (a13 : PySem.W.nsIn K mainGlobals "does_rise" = some (some (.ref f13)))
    (l13 : K.lookup f13 = some ⟨oc13, od13, .func (PySem.W.fnOf "does_rise" "does_rise" (defArgs s_does_rise) (defBody s_does_rise) (defScope s_does_rise) .none kV13 dc13 pm13 an13 cd13 ct13), sl13⟩)
    (c13 : PySem.W.codeIn K cd13 "does_rise" = true)
    (k13 : PySem.W.keepIn K (.ref f13) = true)
    (a14 : PySem.W.nsIn K mainGlobals "is_filled_row" = some (some (.ref f14)))
    (l14 : K.lookup f14 = some ⟨oc14, od14, .func (PySem.W.fnOf "is_filled_row" "is_filled_row" (defArgs s_is_filled_row) (defBody s_is_filled_row) (defScope s_is_filled_row) .none kV14 dc14 pm14 an14 cd14 ct14), sl14⟩)
    (c14 : PySem.W.codeIn K cd14 "is_filled_row" = true)
    (k14 : PySem.W.keepIn K (.ref f14) = true)
    (a15 : PySem.W.nsIn K mainGlobals "are_rows" = some (some (.ref f15)))
    (l15 : K.lookup f15 = some ⟨oc15, od15, .func (PySem.W.fnOf "are_rows" "are_rows" (defArgs s_are_rows) (defBody s_are_rows) (defScope s_are_rows) .none kV15 dc15 pm15 an15 cd15 ct15), sl15⟩)
    (c15 : PySem.W.codeIn K cd15 "are_rows" = true)
    (k15 : PySem.W.keepIn K (.ref f15) = true)
    (a16 : PySem.W.nsIn K mainGlobals "shape_of" = some (some (.ref f16)))
    (l16 : K.lookup f16 = some ⟨oc16, od16, .func (PySem.W.fnOf "shape_of" "shape_of" (defArgs s_shape_of) (defBody s_shape_of) (defScope s_shape_of) .none kV16 dc16 pm16 an16 cd16 ct16), sl16⟩)
    (c16 : PySem.W.codeIn K cd16 "shape_of" = true)
    (k16 : PySem.W.keepIn K (.ref f16) = true)
    (a17 : PySem.W.nsIn K mainGlobals "are_amounts" = some (some (.ref f17)))
    (l17 : K.lookup f17 = some ⟨oc17, od17, .func (PySem.W.fnOf "are_amounts" "are_amounts" (defArgs s_are_amounts) (defBody s_are_amounts) (defScope s_are_amounts) .none kV17 dc17 pm17 an17 cd17 ct17), sl17⟩)
    (c17 : PySem.W.codeIn K cd17 "are_amounts" = true)
    (k17 : PySem.W.keepIn K (.ref f17) = true)
    (a18 : PySem.W.nsIn K mainGlobals "check_amounts" = some (some (.ref f18)))
    (l18 : K.lookup f18 = some ⟨oc18, od18, .func (PySem.W.fnOf "check_amounts" "check_amounts" (defArgs s_check_amounts) (defBody s_check_amounts) (defScope s_check_amounts) .none kV18 dc18 pm18 an18 cd18 ct18), sl18⟩)
    (c18 : PySem.W.codeIn K cd18 "check_amounts" = true)
    (k18 : PySem.W.keepIn K (.ref f18) = true)
    (a19 : PySem.W.nsIn K mainGlobals "parts_below" = some (some (.ref f19)))
    (l19 : K.lookup f19 = some ⟨oc19, od19, .func (PySem.W.fnOf "parts_below" "parts_below" (defArgs s_parts_below) (defBody s_parts_below) (defScope s_parts_below) .none kV19 dc19 pm19 an19 cd19 ct19), sl19⟩)
    (c19 : PySem.W.codeIn K cd19 "parts_below" = true)
    (k19 : PySem.W.keepIn K (.ref f19) = true)
    (a20 : PySem.W.nsIn K mainGlobals "tables_counted" = some (some (.ref f20)))
    (l20 : K.lookup f20 = some ⟨oc20, od20, .func (PySem.W.fnOf "tables_counted" "tables_counted" (defArgs s_tables_counted) (defBody s_tables_counted) (defScope s_tables_counted) .none kV20 dc20 pm20 an20 cd20 ct20), sl20⟩)
    (c20 : PySem.W.codeIn K cd20 "tables_counted" = true)
    (k20 : PySem.W.keepIn K (.ref f20) = true)
    (a21 : PySem.W.nsIn K mainGlobals "table_count" = some (some (.ref f21)))
    (l21 : K.lookup f21 = some ⟨oc21, od21, .func (PySem.W.fnOf "table_count" "table_count" (defArgs s_table_count) (defBody s_table_count) (defScope s_table_count) .none kV21 dc21 pm21 an21 cd21 ct21), sl21⟩)
    (c21 : PySem.W.codeIn K cd21 "table_count" = true)
    (k21 : PySem.W.keepIn K (.ref f21) = true)
    (a22 : PySem.W.nsIn K mainGlobals "with_letters" = some (some (.ref f22)))
    (l22 : K.lookup f22 = some ⟨oc22, od22, .func (PySem.W.fnOf "with_letters" "with_letters" (defArgs s_with_letters) (defBody s_with_letters) (defScope s_with_letters) .none kV22 dc22 pm22 an22 cd22 ct22), sl22⟩)
    (c22 : PySem.W.codeIn K cd22 "with_letters" = true)
    (k22 : PySem.W.keepIn K (.ref f22) = true)
    (a23 : PySem.W.nsIn K mainGlobals "rows_filled" = some (some (.ref f23)))
    (l23 : K.lookup f23 = some ⟨oc23, od23, .func (PySem.W.fnOf "rows_filled" "rows_filled" (defArgs s_rows_filled) (defBody s_rows_filled) (defScope s_rows_filled) .none kV23 dc23 pm23 an23 cd23 ct23), sl23⟩)
    (c23 : PySem.W.codeIn K cd23 "rows_filled" = true)
    (k23 : PySem.W.keepIn K (.ref f23) = true)
    (a24 : PySem.W.nsIn K mainGlobals "tables_with" = some (some (.ref f24)))
    (l24 : K.lookup f24 = some ⟨oc24, od24, .func (PySem.W.fnOf "tables_with" "tables_with" (defArgs s_tables_with) (defBody s_tables_with) (defScope s_tables_with) .none kV24 dc24 pm24 an24 cd24 ct24), sl24⟩)
    (c24 : PySem.W.codeIn K cd24 "tables_with" = true)
    (k24 : PySem.W.keepIn K (.ref f24) = true)
    (a25 : PySem.W.nsIn K mainGlobals "_law_vat_of" = some (some (.ref f25)))
    (l25 : K.lookup f25 = some ⟨oc25, od25, .func (PySem.W.fnOf "_law_vat_of" "_law_vat_of" (defArgs s__law_vat_of) (defBody s__law_vat_of) (defScope s__law_vat_of) .none kV25 dc25 pm25 an25 cd25 ct25), sl25⟩)
    (c25 : PySem.W.codeIn K cd25 "_law_vat_of" = true)
    (k25 : PySem.W.keepIn K (.ref f25) = true)
    (a26 : PySem.W.nsIn K mainGlobals "_law_sip" = some (some (.ref f26)))
    (l26 : K.lookup f26 = some ⟨oc26, od26, .func (PySem.W.fnOf "_law_sip" "_law_sip" (defArgs s__law_sip) (defBody s__law_sip) (defScope s__law_sip) .none kV26 dc26 pm26 an26 cd26 ct26), sl26⟩)
    (c26 : PySem.W.codeIn K cd26 "_law_sip" = true)
    (k26 : PySem.W.keepIn K (.ref f26) = true)
    (a27 : PySem.W.nsIn K mainGlobals "_law_dip" = some (some (.ref f27)))
    (l27 : K.lookup f27 = some ⟨oc27, od27, .func (PySem.W.fnOf "_law_dip" "_law_dip" (defArgs s__law_dip) (defBody s__law_dip) (defScope s__law_dip) .none kV27 dc27 pm27 an27 cd27 ct27), sl27⟩)
    (c27 : PySem.W.codeIn K cd27 "_law_dip" = true)
    (k27 : PySem.W.keepIn K (.ref f27) = true)
    (a28 : PySem.W.nsIn K mainGlobals "_law_forms" = some (some (.ref f28)))
    (l28 : K.lookup f28 = some ⟨oc28, od28, .func (PySem.W.fnOf "_law_forms" "_law_forms" (defArgs s__law_forms) (defBody s__law_forms) (defScope s__law_forms) .none kV28 dc28 pm28 an28 cd28 ct28), sl28⟩)
    (c28 : PySem.W.codeIn K cd28 "_law_forms" = true)
    (k28 : PySem.W.keepIn K (.ref f28) = true)
    (a29 : PySem.W.nsIn K mainGlobals "_law_form" = some (some (.ref f29)))
    (l29 : K.lookup f29 = some ⟨oc29, od29, .func (PySem.W.fnOf "_law_form" "_law_form" (defArgs s__law_form) (defBody s__law_form) (defScope s__law_form) .none kV29 dc29 pm29 an29 cd29 ct29), sl29⟩)
    (c29 : PySem.W.codeIn K cd29 "_law_form" = true)
    (k29 : PySem.W.keepIn K (.ref f29) = true)
    (a30 : PySem.W.nsIn K mainGlobals "_law_lines" = some (some (.ref f30)))
    (l30 : K.lookup f30 = some ⟨oc30, od30, .func (PySem.W.fnOf "_law_lines" "_law_lines" (defArgs s__law_lines) (defBody s__law_lines) (defScope s__law_lines) .none kV30 dc30 pm30 an30 cd30 ct30), sl30⟩)
    (c30 : PySem.W.codeIn K cd30 "_law_lines" = true)
    (k30 : PySem.W.keepIn K (.ref f30) = true)
    (a31 : PySem.W.nsIn K mainGlobals "_law_listed" = some (some (.ref f31)))
    (l31 : K.lookup f31 = some ⟨oc31, od31, .func (PySem.W.fnOf "_law_listed" "_law_listed" (defArgs s__law_listed) (defBody s__law_listed) (defScope s__law_listed) .none kV31 dc31 pm31 an31 cd31 ct31), sl31⟩)
    (c31 : PySem.W.codeIn K cd31 "_law_listed" = true)
    (k31 : PySem.W.keepIn K (.ref f31) = true)
    (a32 : PySem.W.nsIn K mainGlobals "_law_content" = some (some (.ref f32)))
    (l32 : K.lookup f32 = some ⟨oc32, od32, .func (PySem.W.fnOf "_law_content" "_law_content" (defArgs s__law_content) (defBody s__law_content) (defScope s__law_content) .none kV32 dc32 pm32 an32 cd32 ct32), sl32⟩)
    (c32 : PySem.W.codeIn K cd32 "_law_content" = true)
    (k32 : PySem.W.keepIn K (.ref f32) = true)
    (a33 : PySem.W.nsIn K mainGlobals "_law_sums" = some (some (.ref f33)))
    (l33 : K.lookup f33 = some ⟨oc33, od33, .func (PySem.W.fnOf "_law_sums" "_law_sums" (defArgs s__law_sums) (defBody s__law_sums) (defScope s__law_sums) .none kV33 dc33 pm33 an33 cd33 ct33), sl33⟩)
    (c33 : PySem.W.codeIn K cd33 "_law_sums" = true)
    (k33 : PySem.W.keepIn K (.ref f33) = true)
    (a34 : PySem.W.nsIn K mainGlobals "_law_right" = some (some (.ref f34)))
    (l34 : K.lookup f34 = some ⟨oc34, od34, .func (PySem.W.fnOf "_law_right" "_law_right" (defArgs s__law_right) (defBody s__law_right) (defScope s__law_right) .none kV34 dc34 pm34 an34 cd34 ct34), sl34⟩)
    (c34 : PySem.W.codeIn K cd34 "_law_right" = true)
    (k34 : PySem.W.keepIn K (.ref f34) = true)
    (a35 : PySem.W.nsIn K mainGlobals "law" = some (some (.ref f35)))
    (l35 : K.lookup f35 = some ⟨oc35, od35, .func (PySem.W.fnOf "law" "law" (defArgs s_law) (defBody s_law) (defScope s_law) .none kV35 dc35 pm35 an35 cd35 ct35), sl35⟩)
    (c35 : PySem.W.codeIn K cd35 "law" = true)
    (k35 : PySem.W.keepIn K (.ref f35) = true)
    (aC : PySem.W.nsIn K mainGlobals "Table" = some (some (.ref C)))
    (aI : PySem.W.findIn K (.ref C) "__init__" = some (some (.ref fI)))
    (iI : PySem.W.isFn K (.ref fI) = true)
    (lI : K.lookup fI = some ⟨ocI, odI, .func (PySem.W.fnOf "__init__" "Table.__init__" (defArgs s___init__) (defBody s___init__) (defScope s___init__) .none kVI dcI pmI anI cdI ctI), slI⟩)
    (cI : PySem.W.codeIn K cdI "Table.__init__" = true)
    (kI : PySem.W.keepIn K (.ref fI) = true)
    (qR : PySem.W.findIn K (.ref C) "rows" = some (some (.ref pR)))
    (gR : PySem.W.specialIn K (.ref pR) "__get__" = some (some (.builtin "property.__get__")))
    (tR : PySem.W.takesIn K (.ref pR) = some true)
    (rR : PySem.W.recIn K pR "property" = some (.ref fR :: restR))
    (lR : K.lookup fR = some ⟨ocR, odR, .func (PySem.W.fnOf "rows" "Table.rows" (defArgs s_rows) (defBody s_rows) (defScope s_rows) .none kVR dcR pmR anR cdR ctR), slR⟩)
    (cR : PySem.W.codeIn K cdR "Table.rows" = true)
    (kR : PySem.W.keepIn K (.ref fR) = true)
    (qS : PySem.W.findIn K (.ref C) "shape" = some (some (.ref pS)))
    (gS : PySem.W.specialIn K (.ref pS) "__get__" = some (some (.builtin "property.__get__")))
    (tS : PySem.W.takesIn K (.ref pS) = some true)
    (rS : PySem.W.recIn K pS "property" = some (.ref fS :: restS))
    (lS : K.lookup fS = some ⟨ocS, odS, .func (PySem.W.fnOf "shape" "Table.shape" (defArgs s_shape) (defBody s_shape) (defScope s_shape) .none kVS dcS pmS anS cdS ctS), slS⟩)
    (cS : PySem.W.codeIn K cdS "Table.shape" = true)
    (kS : PySem.W.keepIn K (.ref fS) = true)
    (pg : PySem.W.plainGet K C Str.empty = true)
    (hd : PySem.W.hasDictIn K C = true)
    (po : PySem.W.plainOver K C = true)
    (sa : PySem.W.findIn K (.ref C) "__setattr__" = some (some (.builtin "object.__setattr__")))
    (mk : PySem.W.makesIn K C = true)
    (kc : PySem.W.keepIn K (.ref C) = true)
    (nf : PySem.W.findIn K (.ref C) "filled" = some none)
    (ha : PySem.W.findIn K (.ref C) "__class__" = some (some (.builtin "object.__class__")))
    (hn : PySem.W.specialIn K (.builtin "object.__class__") "__get__" = some (some (.builtin "getset_descriptor.__get__")))
    (htk : PySem.W.takesIn K (.builtin "object.__class__") = some true)
    (hm : PySem.W.mroIn K C (.type "object") = some true)
    (z_len : PySem.W.nsIn K mainGlobals "len" = some none)
    (z_all : PySem.W.nsIn K mainGlobals "all" = some none)
    (z_isinstance : PySem.W.nsIn K mainGlobals "isinstance" = some none)
    (z_min : PySem.W.nsIn K mainGlobals "min" = some none)
    (z_max : PySem.W.nsIn K mainGlobals "max" = some none)
    (z_abs : PySem.W.nsIn K mainGlobals "abs" = some none)
    (z_divmod : PySem.W.nsIn K mainGlobals "divmod" = some none)
    (z_repr : PySem.W.nsIn K mainGlobals "repr" = some none)
    (z_sum : PySem.W.nsIn K mainGlobals "sum" = some none)
    (z_sorted : PySem.W.nsIn K mainGlobals "sorted" = some none)
    (z_tuple : PySem.W.nsIn K mainGlobals "tuple" = some none)
    (z_list : PySem.W.nsIn K mainGlobals "list" = some none)
    (z_int : PySem.W.nsIn K mainGlobals "int" = some none)
    (z_bool : PySem.W.nsIn K mainGlobals "bool" = some none)
    (z_range : PySem.W.nsIn K mainGlobals "range" = some none)
    (z_enumerate : PySem.W.nsIn K mainGlobals "enumerate" = some none)
    (z_zip : PySem.W.nsIn K mainGlobals "zip" = some none)
    (y_MOST_LETTER : PySem.W.nsIn K mainGlobals "MOST_LETTER" = some (some (.int 12 tk_MOST_LETTER)))
    (y_MOST_LONG : PySem.W.nsIn K mainGlobals "MOST_LONG" = some (some (.int 12 tk_MOST_LONG)))
    (y_MOST_BOXES : PySem.W.nsIn K mainGlobals "MOST_BOXES" = some (some (.int 40 tk_MOST_BOXES)))
    (y_MOST_LISTED : PySem.W.nsIn K mainGlobals "MOST_LISTED" = some (some (.int 2000 tk_MOST_LISTED))) :
    ∃ fd : FuncData, (∀ (s : Shared) (u : Value), BindsTo s fd ⟨[u], []⟩ [("_law_script", u)]) ∧ ∀ base : Heap, K.In base → base.Ns mainGlobals mg → FnG l.prog w K mg base 12 fa fd ["_law_script"] (S_law K) := by
  have e := hfa.symm.trans (PySem.W.mg_of X G a35)
  cases e
  have M1 : Md K mg "is_number" s_is_number := ⟨_, _, PySem.W.mg_of X G a1, fun_mk (st := s_is_number) l1 c1 k1⟩
  have M2 : Md K mg "is_shape" s_is_shape := ⟨_, _, PySem.W.mg_of X G a2, fun_mk (st := s_is_shape) l2 c2 k2⟩
  have M3 : Md K mg "check_shape" s_check_shape := ⟨_, _, PySem.W.mg_of X G a3, fun_mk (st := s_check_shape) l3 c3 k3⟩
  have M4 : Md K mg "trimmed" s_trimmed := ⟨_, _, PySem.W.mg_of X G a4, fun_mk (st := s_trimmed) l4 c4 k4⟩
  have M5 : Md K mg "sums_along" s_sums_along := ⟨_, _, PySem.W.mg_of X G a5, fun_mk (st := s_sums_along) l5 c5 k5⟩
  have M6 : Md K mg "lighter_at" s_lighter_at := ⟨_, _, PySem.W.mg_of X G a6, fun_mk (st := s_lighter_at) l6 c6 k6⟩
  have M7 : Md K mg "check_sizes" s_check_sizes := ⟨_, _, PySem.W.mg_of X G a7, fun_mk (st := s_check_sizes) l7 c7 k7⟩
  have M8 : Md K mg "heavier" s_heavier := ⟨_, _, PySem.W.mg_of X G a8, fun_mk (st := s_heavier) l8 c8 k8⟩
  have M9 : Md K mg "is_integer" s_is_integer := ⟨_, _, PySem.W.mg_of X G a9, fun_mk (st := s_is_integer) l9 c9 k9⟩
  have M10 : Md K mg "is_within" s_is_within := ⟨_, _, PySem.W.mg_of X G a10, fun_mk (st := s_is_within) l10 c10 k10⟩
  have M11 : Md K mg "is_letter" s_is_letter := ⟨_, _, PySem.W.mg_of X G a11, fun_mk (st := s_is_letter) l11 c11 k11⟩
  have M12 : Md K mg "is_word" s_is_word := ⟨_, _, PySem.W.mg_of X G a12, fun_mk (st := s_is_word) l12 c12 k12⟩
  have M13 : Md K mg "does_rise" s_does_rise := ⟨_, _, PySem.W.mg_of X G a13, fun_mk (st := s_does_rise) l13 c13 k13⟩
  have M14 : Md K mg "is_filled_row" s_is_filled_row := ⟨_, _, PySem.W.mg_of X G a14, fun_mk (st := s_is_filled_row) l14 c14 k14⟩
  have M15 : Md K mg "are_rows" s_are_rows := ⟨_, _, PySem.W.mg_of X G a15, fun_mk (st := s_are_rows) l15 c15 k15⟩
  have M16 : Md K mg "shape_of" s_shape_of := ⟨_, _, PySem.W.mg_of X G a16, fun_mk (st := s_shape_of) l16 c16 k16⟩
  have M17 : Md K mg "are_amounts" s_are_amounts := ⟨_, _, PySem.W.mg_of X G a17, fun_mk (st := s_are_amounts) l17 c17 k17⟩
  have M18 : Md K mg "check_amounts" s_check_amounts := ⟨_, _, PySem.W.mg_of X G a18, fun_mk (st := s_check_amounts) l18 c18 k18⟩
  have M19 : Md K mg "parts_below" s_parts_below := ⟨_, _, PySem.W.mg_of X G a19, fun_mk (st := s_parts_below) l19 c19 k19⟩
  have M20 : Md K mg "tables_counted" s_tables_counted := ⟨_, _, PySem.W.mg_of X G a20, fun_mk (st := s_tables_counted) l20 c20 k20⟩
  have M21 : Md K mg "table_count" s_table_count := ⟨_, _, PySem.W.mg_of X G a21, fun_mk (st := s_table_count) l21 c21 k21⟩
  have M22 : Md K mg "with_letters" s_with_letters := ⟨_, _, PySem.W.mg_of X G a22, fun_mk (st := s_with_letters) l22 c22 k22⟩
  have M23 : Md K mg "rows_filled" s_rows_filled := ⟨_, _, PySem.W.mg_of X G a23, fun_mk (st := s_rows_filled) l23 c23 k23⟩
  have M24 : Md K mg "tables_with" s_tables_with := ⟨_, _, PySem.W.mg_of X G a24, fun_mk (st := s_tables_with) l24 c24 k24⟩
  have M25 : Md K mg "_law_vat_of" s__law_vat_of := ⟨_, _, PySem.W.mg_of X G a25, fun_mk (st := s__law_vat_of) l25 c25 k25⟩
  have M26 : Md K mg "_law_sip" s__law_sip := ⟨_, _, PySem.W.mg_of X G a26, fun_mk (st := s__law_sip) l26 c26 k26⟩
  have M27 : Md K mg "_law_dip" s__law_dip := ⟨_, _, PySem.W.mg_of X G a27, fun_mk (st := s__law_dip) l27 c27 k27⟩
  have M28 : Md K mg "_law_forms" s__law_forms := ⟨_, _, PySem.W.mg_of X G a28, fun_mk (st := s__law_forms) l28 c28 k28⟩
  have M29 : Md K mg "_law_form" s__law_form := ⟨_, _, PySem.W.mg_of X G a29, fun_mk (st := s__law_form) l29 c29 k29⟩
  have M30 : Md K mg "_law_lines" s__law_lines := ⟨_, _, PySem.W.mg_of X G a30, fun_mk (st := s__law_lines) l30 c30 k30⟩
  have M31 : Md K mg "_law_listed" s__law_listed := ⟨_, _, PySem.W.mg_of X G a31, fun_mk (st := s__law_listed) l31 c31 k31⟩
  have M32 : Md K mg "_law_content" s__law_content := ⟨_, _, PySem.W.mg_of X G a32, fun_mk (st := s__law_content) l32 c32 k32⟩
  have M33 : Md K mg "_law_sums" s__law_sums := ⟨_, _, PySem.W.mg_of X G a33, fun_mk (st := s__law_sums) l33 c33 k33⟩
  have M34 : Md K mg "_law_right" s__law_right := ⟨_, _, PySem.W.mg_of X G a34, fun_mk (st := s__law_right) l34 c34 k34⟩
  have M35 : Md K mg "law" s_law := ⟨_, _, PySem.W.mg_of X G a35, fun_mk (st := s_law) l35 c35 k35⟩
  have T : Tb K mg C := ⟨PySem.W.mg_of X G aC, ⟨pg, hd, po, sa⟩, nf, ⟨_, _, ⟨mk, aI, iI, kc⟩, fun_mk (st := s___init__) lI cI kI⟩, ⟨_, _, _, ⟨qR, gR, tR, restR, rR⟩, fun_mk (st := s_rows) lR cR kR⟩, ⟨_, _, _, ⟨qS, gS, tS, restS, rS⟩, fun_mk (st := s_shape) lS cS kS⟩, ha, hn, htk, hm⟩
  have B : Bt mg := ⟨PySem.W.mg_none_of X G z_len, PySem.W.mg_none_of X G z_all, PySem.W.mg_none_of X G z_isinstance, PySem.W.mg_none_of X G z_min, PySem.W.mg_none_of X G z_max, PySem.W.mg_none_of X G z_abs, PySem.W.mg_none_of X G z_divmod, PySem.W.mg_none_of X G z_repr, PySem.W.mg_none_of X G z_sum, PySem.W.mg_none_of X G z_sorted, PySem.W.mg_none_of X G z_tuple, PySem.W.mg_none_of X G z_list, PySem.W.mg_none_of X G z_int, PySem.W.mg_none_of X G z_bool, PySem.W.mg_none_of X G z_range, PySem.W.mg_none_of X G z_enumerate, PySem.W.mg_none_of X G z_zip, ⟨_, PySem.W.mg_of X G y_MOST_LETTER⟩, ⟨_, PySem.W.mg_of X G y_MOST_LONG⟩, ⟨_, PySem.W.mg_of X G y_MOST_BOXES⟩, ⟨_, PySem.W.mg_of X G y_MOST_LISTED⟩⟩
  have A : All K mg C := ⟨B, T, M1, M2, M3, M4, M5, M6, M7, M8, M9, M10, M11, M12, M13, M14, M15, M16, M17, M18, M19, M20, M21, M22, M23, M24, M25, M26, M27, M28, M29, M30, M31, M32, M33, M34⟩
  refine ⟨PySem.W.fnOf "law" "law" (defArgs s_law) (defBody s_law) (defScope s_law) .none kV35 dc35 pm35 an35 cd35 ct35, fun s u => .of_eq rfl, fun base _ _ => ?_⟩
  obtain ⟨g, gd, hg, _, _, ⟨oc, od, osl, lk⟩, F⟩ := law_all (P := l.prog) (w := w) (base := base) A M35
  rw [PySem.W.mg_of X G a35] at hg
  injection hg with hg
  injection hg with hg
  subst hg
  rw [l35] at lk
  injection lk with lk
  injection lk with _ _ z _
  injection z with z
  subst z
  exact F
theorem walkG {l : PySem.W.OpenLaw} {q : Program} {loose : List PySem.Str} {XP : (PySem.Str → Option Value) → Heap → Prop} {YP : World → Heap → Prop} {d : DefRec} {K : Params → PySem.W.Frag} (most : l.most = some 63) (dfs : d.params.defaults = [])
    (inK : ∀ (w : World) (h : Heap), YP w h → (K w.params).In h)
    (F : ∀ (w : World) (mg : PySem.Str → Option Value) (fa : Addr) (h : Heap), (K w.params).In h → h.Ns mainGlobals mg → mg d.name = some (.ref fa) →
      ∃ fd : FuncData, (∀ (s : Shared) (u : Value), BindsTo s fd ⟨[u], []⟩ [("_law_script", u)]) ∧ ∀ base : Heap, (K w.params).In base → base.Ns mainGlobals mg → FnG l.prog w (K w.params) mg base 12 fa fd ["_law_script"] (S_law (K w.params))) :
    PySem.W.WalkO q loose XP YP l.row.toRowW d [] (fun f vs => PySem.call f vs) := by
  refine Att.attach_call most dfs fun w s0 s1 mg mb fa ob pm cd dc a vs ns G0 Y0 hob hdt hrc hfa hls hin hle hgn => ?_
  have KI := inK w _ Y0
  obtain ⟨fd, bd, FG⟩ := F w mg fa _ KI G0.T.g hfa
  exact law_end KI G0.T.g G0.T.b G0.T.builtins G0.T.nolimit hgn hls hin (Nat.le_trans hle (by decide)) ⟨rfl, by decide, by decide⟩ FG bd fun H _ hS => ⟨a, ns, rfl, hS, fun _ => rfl⟩
end WS
set_option maxHeartbeats 0
open PySem PySem.W PyProof.Rows
open_top hd for PySem.Challenge.rw_wordshapes_k54_whole_tables_of_told_amou
set_option maxRecDepth 100000 in
set_option maxHeartbeats 0 in
theorem PySem.Challenge.cw_wordshapes_k54_whole_tables_of_told_amou_holds : PySem.Challenge.rw_wordshapes_k54_whole_tables_of_told_amou.Holds :=
  hd (by
  k_fill
  refine WS.walkG (l := PySem.Challenge.rw_wordshapes_k54_whole_tables_of_told_amou) rfl rfl (fun w h Y => PySem.W.kIn_of Y) ?F
  case F =>
    intro w mg fa h KX G hmg
    refine' WS.facts KX G hmg ?a1 ?l1 ?c1 ?k1 ?a2 ?l2 ?c2 ?k2 ?a3 ?l3 ?c3 ?k3 ?a4 ?l4 ?c4 ?k4 ?a5 ?l5 ?c5 ?k5 ?a6 ?l6 ?c6 ?k6 ?a7 ?l7 ?c7 ?k7 ?a8 ?l8 ?c8 ?k8 ?a9 ?l9 ?c9 ?k9 ?a10 ?l10 ?c10 ?k10 ?a11 ?l11 ?c11 ?k11 ?a12 ?l12 ?c12 ?k12 ?a13 ?l13 ?c13 ?k13 ?a14 ?l14 ?c14 ?k14 ?a15 ?l15 ?c15 ?k15 ?a16 ?l16 ?c16 ?k16 ?a17 ?l17 ?c17 ?k17 ?a18 ?l18 ?c18 ?k18 ?a19 ?l19 ?c19 ?k19 ?a20 ?l20 ?c20 ?k20 ?a21 ?l21 ?c21 ?k21 ?a22 ?l22 ?c22 ?k22 ?a23 ?l23 ?c23 ?k23 ?a24 ?l24 ?c24 ?k24 ?a25 ?l25 ?c25 ?k25 ?a26 ?l26 ?c26 ?k26 ?a27 ?l27 ?c27 ?k27 ?a28 ?l28 ?c28 ?k28 ?a29 ?l29 ?c29 ?k29 ?a30 ?l30 ?c30 ?k30 ?a31 ?l31 ?c31 ?k31 ?a32 ?l32 ?c32 ?k32 ?a33 ?l33 ?c33 ?k33 ?a34 ?l34 ?c34 ?k34 ?a35 ?l35 ?c35 ?k35 ?aC ?aI ?iI ?lI ?cI ?kI ?qR ?gR ?tR ?rR ?lR ?cR ?kR ?qS ?gS ?tS ?rS ?lS ?cS ?kS ?pg ?hd ?po ?sa ?mk ?kc ?nf ?ha ?hn ?htk ?hm ?z_len ?z_all ?z_isinstance ?z_min ?z_max ?z_abs ?z_divmod ?z_repr ?z_sum ?z_sorted ?z_tuple ?z_list ?z_int ?z_bool ?z_range ?z_enumerate ?z_zip ?y_MOST_LETTER ?y_MOST_LONG ?y_MOST_BOXES ?y_MOST_LISTED
    (case a1 => k_is); (case l1 => k_is); (case c1 => k_is); (case k1 => k_is); (case a2 => k_is); (case l2 => k_is)
    (case c2 => k_is); (case k2 => k_is); (case a3 => k_is); (case l3 => k_is); (case c3 => k_is); (case k3 => k_is)
    (case a4 => k_is); (case l4 => k_is); (case c4 => k_is); (case k4 => k_is); (case a5 => k_is); (case l5 => k_is)
    (case c5 => k_is); (case k5 => k_is); (case a6 => k_is); (case l6 => k_is); (case c6 => k_is); (case k6 => k_is)
    (case a7 => k_is); (case l7 => k_is); (case c7 => k_is); (case k7 => k_is); (case a8 => k_is); (case l8 => k_is)
    (case c8 => k_is); (case k8 => k_is); (case a9 => k_is); (case l9 => k_is); (case c9 => k_is); (case k9 => k_is)
    (case a10 => k_is); (case l10 => k_is); (case c10 => k_is); (case k10 => k_is); (case a11 => k_is); (case l11 => k_is)
    (case c11 => k_is); (case k11 => k_is); (case a12 => k_is); (case l12 => k_is); (case c12 => k_is); (case k12 => k_is)
    (case a13 => k_is); (case l13 => k_is); (case c13 => k_is); (case k13 => k_is); (case a14 => k_is); (case l14 => k_is)
    (case c14 => k_is); (case k14 => k_is); (case a15 => k_is); (case l15 => k_is); (case c15 => k_is); (case k15 => k_is)
    (case a16 => k_is); (case l16 => k_is); (case c16 => k_is); (case k16 => k_is); (case a17 => k_is); (case l17 => k_is)
    (case c17 => k_is); (case k17 => k_is); (case a18 => k_is); (case l18 => k_is); (case c18 => k_is); (case k18 => k_is)
    (case a19 => k_is); (case l19 => k_is); (case c19 => k_is); (case k19 => k_is); (case a20 => k_is); (case l20 => k_is)
    (case c20 => k_is); (case k20 => k_is); (case a21 => k_is); (case l21 => k_is); (case c21 => k_is); (case k21 => k_is)
    (case a22 => k_is); (case l22 => k_is); (case c22 => k_is); (case k22 => k_is); (case a23 => k_is); (case l23 => k_is)
    (case c23 => k_is); (case k23 => k_is); (case a24 => k_is); (case l24 => k_is); (case c24 => k_is); (case k24 => k_is)
    (case a25 => k_is); (case l25 => k_is); (case c25 => k_is); (case k25 => k_is); (case a26 => k_is); (case l26 => k_is)
    (case c26 => k_is); (case k26 => k_is); (case a27 => k_is); (case l27 => k_is); (case c27 => k_is); (case k27 => k_is)
    (case a28 => k_is); (case l28 => k_is); (case c28 => k_is); (case k28 => k_is); (case a29 => k_is); (case l29 => k_is)
    (case c29 => k_is); (case k29 => k_is); (case a30 => k_is); (case l30 => k_is); (case c30 => k_is); (case k30 => k_is)
    (case a31 => k_is); (case l31 => k_is); (case c31 => k_is); (case k31 => k_is); (case a32 => k_is); (case l32 => k_is)
    (case c32 => k_is); (case k32 => k_is); (case a33 => k_is); (case l33 => k_is); (case c33 => k_is); (case k33 => k_is)
    (case a34 => k_is); (case l34 => k_is); (case c34 => k_is); (case k34 => k_is); (case a35 => k_is); (case l35 => k_is)
    (case c35 => k_is); (case k35 => k_is); (case aC => k_is); (case aI => k_is); (case iI => k_is); (case lI => k_is)
    (case cI => k_is); (case kI => k_is); (case qR => k_is); (case gR => k_is); (case tR => k_is); (case rR => k_is)
    (case lR => k_is); (case cR => k_is); (case kR => k_is); (case qS => k_is); (case gS => k_is); (case tS => k_is)
    (case rS => k_is); (case lS => k_is); (case cS => k_is); (case kS => k_is); (case pg => k_is); (case hd => k_is)
    (case po => k_is); (case sa => k_is); (case mk => k_is); (case kc => k_is); (case nf => k_is); (case ha => k_is)
    (case hn => k_is); (case htk => k_is); (case hm => k_is); (case z_len => k_is); (case z_all => k_is); (case z_isinstance => k_is)
    (case z_min => k_is); (case z_max => k_is); (case z_abs => k_is); (case z_divmod => k_is); (case z_repr => k_is); (case z_sum => k_is)
    (case z_sorted => k_is); (case z_tuple => k_is); (case z_list => k_is); (case z_int => k_is); (case z_bool => k_is); (case z_range => k_is)
    (case z_enumerate => k_is); (case z_zip => k_is); (case y_MOST_LETTER => k_is); (case y_MOST_LONG => k_is); (case y_MOST_BOXES => k_is); (case y_MOST_LISTED => k_is))
