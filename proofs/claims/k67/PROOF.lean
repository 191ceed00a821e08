import PyProof.Rows.All
import Wide.All
import OpenK.AllK
import Wide.FinOn
import HandS.Style
import HandS.TupAny
import HandS.List
import KE.DataMinMax
import PyProof.Rows.RowBridgeK
import HandS.ForMost
import HandS.Flow
import HandS.IsInst
import HandS.Zip
import HandS.Walk
import HandS.NoneIn
import HandS.Sort
import KE.GoesEnum
import KE.GoesZip
import KE.GoesMore
import KE.LtData
import HandS.Conv
import HandS.WideBits
import HandS.Flt
import HandS.CallRecv
import HandS.DictComp
import PySem.Challenge.RW_makeroom_k67_whole_greater_and_smaller_s
set_option Elab.async false
set_option linter.all false
set_option maxRecDepth 100000
set_option maxHeartbeats 4000000
/-! MkRev: t[::-1] of a list or a tuple. -/
namespace HT
open PySem PyProof.Rows
section
variable {prog : Program} {w : World} {A : Around} {E : Value → Shared → Prop} {s : Shared}
theorem mk_adjust_rev (n : Nat) : Builtin.Slice.sliceAdjust none none (-1) (n : Int) = ((n : Int) - 1, -1) := by
  unfold Builtin.Slice.sliceAdjust
  simp
theorem mk_places_rev (n : Nat) : Builtin.Slice.slicePlaces ((n : Int) - 1) (-1) (-1) = n := by
  unfold Builtin.Slice.slicePlaces
  have h1 : ¬ ((-1 : Int) > 0) := by decide
  simp only [h1, if_false]
  by_cases h : (n : Int) - 1 > -1
  · rw [if_pos h, show (- -1 : Int) = 1 by decide, Int.ediv_one]; omega
  · rw [if_neg h]; omega
theorem mk_applied_rev {sl : Addr} {vs : Value} {n : Nat} {Q : Int × Int × Nat → Shared → Prop} (hs : s.heap.IsSliceOf sl .none .none vs) (ps : IsPart vs (some (-1)))
    (h : Q ((n : Int) - 1, -1, n) s) : wpAny (model prog w) A (Builtin.Slice.sliceApplied (.ref sl) (pure (n : Int))) Q E s := by
  obtain ⟨os, hos, hcs, hds⟩ := id hs
  unfold Builtin.Slice.sliceApplied Builtin.Slice.sliceFields
  refine wpAny_bind (wpAny_bind (wpAny_field hos hds (x := .none) rfl (wpAny_bind (wpAny_field hos hds (x := .none) rfl (wpAny_bind (wpAny_field hos hds (x := vs) rfl (wpAny_pure ?_)))))))
  refine wpAny_bind (slicePart_ ps ?_)
  show wpAny _ _ (if ((-1 : Int) == 0) = true then _ else _) _ _ s
  rw [if_neg (by decide)]
  refine wpAny_bind (slicePart_none (wpAny_bind (slicePart_none (wpAny_bind (wpAny_pure ?_)))))
  show wpAny _ _ (match Builtin.Slice.sliceAdjust none none (-1) (n : Int) with | (lo, hi) => pure (lo, (-1 : Int), Builtin.Slice.slicePlaces lo hi (-1))) _ _ s
  rw [mk_adjust_rev n]
  show wpAny _ _ (pure ((n : Int) - 1, (-1 : Int), Builtin.Slice.slicePlaces ((n : Int) - 1) (-1) (-1))) _ _ s
  rw [mk_places_rev]
  exact wpAny_pure h
theorem mk_fm_all {α β : Type} {f : α → Option β} {g : α → β} : ∀ {xs : List α}, (∀ x ∈ xs, f x = some (g x)) → xs.filterMap f = xs.map g
  | [], _ => rfl
  | x :: xs, q => by
    rw [List.filterMap_cons_some (q x List.mem_cons_self), mk_fm_all fun y hy => q y (List.mem_cons_of_mem _ hy)]
    rfl
theorem mk_pick_rev (xs : Array Value) : ((List.range xs.size).filterMap fun (m : Nat) => xs[(((xs.size : Int) - 1) + (m : Int) * (-1)).toNat]?).toArray = xs.toList.reverse.toArray := by
  congr 1
  have h1 : ∀ m ∈ List.range xs.size, xs[(((xs.size : Int) - 1) + (m : Int) * (-1)).toNat]? = some (xs.toList.reverse.getD m .none) := fun m hm => by
    have hm := List.mem_range.mp hm
    have : (((xs.size : Int) - 1) + (m : Int) * (-1)).toNat = xs.size - 1 - m := by omega
    rw [this, List.getD_eq_getElem?_getD, List.getElem?_reverse (by simpa using hm)]
    simp only [Array.length_toList]
    rw [Array.getElem?_toList, Array.getElem?_eq_getElem (by omega)]
    rfl
  rw [mk_fm_all h1]
  apply List.ext_getElem (by simp)
  intro i h1 h2
  simp [List.getD_eq_getElem?_getD, List.getElem?_eq_getElem h2]
theorem getItem_tuple_rev {t sl : Addr} {items : Array Value} {vs : Value} {Q : Value → Shared → Prop} (ht : IsTup s.heap t items) (hs : s.heap.IsSliceOf sl .none .none vs) (ps : IsPart vs (some (-1)))
    (h : Q (.ref s.heap.objs.size) { s with heap := s.heap.push { cls := .type "tuple", data := .seq items.toList.reverse.toArray } })
    (hsz : items.size ≤ sizeLine) : wpAny (model prog w) A (getItem (.ref t) (.ref sl)) Q E s := by
  have htake : sizeOk (.seq items.toList.reverse.toArray) := by
    show items.toList.reverse.toArray.size ≤ sizeLine
    rw [List.size_toArray, List.length_reverse, Array.length_toList]
    exact hsz
  obtain ⟨os, hos, hcs, hds⟩ := id hs
  have hTs : s.TypeIs (.ref sl) "slice" := ⟨os, hos, hcs⟩
  unfold getItem
  try with_reducible refine wpAny_holding ?_
  first | refine wpAny_bind (wpAny_pure ?_) | skip
  refine wpAny_bind (wpAny_sequenceKey ht.typeIs (by decide) ?_)
  refine wpAny_bind (wpAny_callSpecial?_slot (name := Str.ofString "__getitem__") ht.typeIs PyProof.Rows.slot_tuple_getitem
    (wpAny_call_entry PyProof.Rows.slot_tuple_getitem ht.typeIs entry_tuple_getitem ?_ (args_tuple_getitem _ _)))
  show wpAny _ _ (Builtin.Tuple.tupleItemsOf (.ref t) >>= _) _ _ s
  refine wpAny_bind (tupleItemsOf_ ht ?_)
  refine wpAny_bind (wpAny_typeOf hTs ?_)
  rw [if_pos (by decide)]
  refine wpAny_bind (mk_applied_rev hs ps ?_)
  have hno : ¬ ((((items.size : Int) - 1) == 0 && (-1 : Int) == 1 && items.size == items.size) = true) := by
    intro q
    rw [Bool.and_eq_true, Bool.and_eq_true] at q
    exact absurd (eq_of_beq q.1.2) (by decide)
  show wpAny _ _ (if (((items.size : Int) - 1) == 0 && (-1 : Int) == 1 && items.size == items.size) = true then _ else _) _ _ s
  rw [if_neg hno, mk_pick_rev]
  first
    | exact wpAny_bind (m := Builtin.Tuple.tupleExact _) (wpAny_newObj_type (wpAny_pure ⟨_, rfl, wpAny_pure h⟩) htake)
    | exact wpAny_bind (m := Builtin.Tuple.tupleExact _) (wpAny_newObj_type (wpAny_bind (wpAny_pure (wpAny_pure ⟨_, rfl, wpAny_pure h⟩))) htake)
    | exact wpAny_bind (wpAny_newObj_type (wpAny_pure ⟨_, rfl, wpAny_pure h⟩) htake)
end
end HT
namespace L2
open PySem PySem.Spec PyProof.Rows
section
variable {X : Cx}
/-- a list's or a tuple's -/
def tRevB (K : PySem.W.Frag) (te : TE) : TE := fun σ H Q => te σ H fun x H1 => ∃ a xs, x = .ref a ∧ ((SqL K H1 a xs ∧ ∀ p, H1 p = none → Q (.ref p) (upd H1 p (.lst xs.reverse))) ∨ (SqT K H1 a xs ∧ ∀ p, H1 p = none → Q (.ref p) (upd H1 p (.tup xs.reverse))))
theorem pe_revB {e : Expr} {te : TE} {k : Nat} {p1 p2 p3 pos : Pos} (he : PE X e te) : PE X (.Subscript e (.Slice none none (some (.UnaryOp .USub (.Constant (.int 1) k p1) p2)) p3) pos) (tRevB X.K te) := by
  refine ⟨fun pins s σ H Q I h => ?_⟩
  refine Subscript_ (thn (he.run pins s σ H _ I h) fun v s1 ⟨x, H1, I1, r1, q1⟩ => ?_)
  obtain ⟨a, xs, ex, q⟩ := q1
  subst ex
  cases r1
  have hst : PO X (some (.UnaryOp .USub (.Constant (.int 1) k p1) p2)) (tPart (tUn (rU fun i => .int (-i)) (tC (.int 1)))) := po_some (pe_un un_neg pe_int)
  refine wpAny_Slice (thn (po_none.run pins s1 σ H1 (fun o H2 => o = none ∧ H2 = H1) I1 ⟨rfl, rfl⟩) fun vl s2 ⟨l, H2, I2, pl, el, e2⟩ => ?_)
  subst el e2
  refine thn (po_none.run pins s2 σ H2 (fun o H3 => o = none ∧ H3 = H2) I2 ⟨rfl, rfl⟩) fun vu s3 ⟨u, H3, I3, pu, eu, e3⟩ => ?_
  subst eu e3
  refine thn (hst.run pins s3 σ H3 (fun o H4 => o = some (-1) ∧ H4 = H3) I3 ⟨1, rfl, -1, rfl, rfl, rfl⟩) fun vs s4 ⟨o, H4, I4, ps, eo, e4⟩ => ?_
  subst eo e4
  have I5 : Inv X pins σ H4 { s4 with heap := s4.heap.push { cls := .type "slice", data := .fields #[vl, vu, vs] } } := I4.kept (t' := s4.toks) fun b ob q => Heap.get?_push_of_some _ q
  show wpAny (model X.prog X.w) X.A (subscriptTail e (.Slice none none (some (.UnaryOp .USub (.Constant (.int 1) k p1) p2)) p3) (.ref a) (.ref s4.heap.objs.size)) (EP X pins σ Q) X.xe { s4 with heap := s4.heap.push { cls := .type "slice", data := .fields #[vl, vu, vs] } }
  rcases q with ⟨hx, q⟩ | ⟨hx, q⟩
  · obtain ⟨its, r, ht, hz⟩ := I5.list hx
    have hlen := r.length
    refine tail_any (ops := [.ref a, .ref s4.heap.objs.size]) ht.isList.typeIs (PySem.slot_list_getitem.lookup) ?_ (by with_unfolding_all rfl)
    refine wpAny_getItem_list_slice ht.isList (Heap.IsSliceOf.new _ vl vu vs) pl pu ps (by decide) ?_ (by rw [List.size_toArray]; omega)
    rw [PySem.W.krv_pick]
    refine ⟨.ref _, _, I5.laid (t' := s4.toks) (o := .lst xs.reverse) (fun b ob q => Heap.get?_push_of_some _ q) (Nat.le_refl _) ?_, rfl, q _ (I5.hok.fresh (Nat.le_refl _))⟩
    exact ⟨by rw [List.length_reverse]; exact hz, _, 0, r.reverse, Heap.get?_push_size _ rfl⟩
  · obtain ⟨its, r, ht, hz⟩ := I5.tuple hx
    have hlen := r.length
    cases pl
    cases pu
    refine tail_any (ops := [.ref a, .ref s4.heap.objs.size]) ht.typeIs (PyProof.Rows.slot_tuple_getitem.lookup) ?_ (by with_unfolding_all rfl)
    refine HT.getItem_tuple_rev ht (Heap.IsSliceOf.new _ .none .none vs) ps ?_ (by rw [List.size_toArray]; omega)
    refine ⟨.ref _, _, I5.laid (t' := s4.toks) (o := .tup xs.reverse) (fun b ob q => Heap.get?_push_of_some _ q) (Nat.le_refl _) ?_, rfl, q _ (I5.hok.fresh (Nat.le_refl _))⟩
    exact ⟨by rw [List.length_reverse]; exact hz, _, r.reverse, IsTup.new _ _⟩
end
end L2
set_option maxHeartbeats 4000000
/-! MkMin: min, max of a list of alike data. -/
namespace L2
open PySem PySem.Spec PyProof.Rows PySem.W
section
variable {X : Cx}
theorem vals_at {xs : List V} {its : List Value} (r : Vals xs its) {i : Nat} {v : Value} (h : its[i]? = some v) : ∃ x, xs[i]? = some x ∧ RelV x v := by
  have hl := r.length
  have hi : i < its.length := (List.getElem?_eq_some_iff.mp h).1
  have hx : xs[i]? = some xs[i] := List.getElem?_eq_getElem (by omega)
  obtain ⟨u, e, ru⟩ := r.get hx
  rw [h] at e
  cases e
  exact ⟨_, hx, ru⟩
def rMinD (K : PySem.W.Frag) : List V → Hp → VK → Prop := fun vs H Q => ∃ (a : Addr) (xs : List V) (d : PyData) (ds : List PyData), vs = [V.ref a] ∧ SqL K H a xs ∧ DpAll K H xs (d :: ds) ∧ AlikeAll (d :: ds) ∧ PyData.depthAll (d :: ds) ≤ 63 ∧
  ∀ (i : Nat) (x : V), xs[i]? = some x → (d :: ds)[i]? = some (minD d ds) → Q x H
theorem cr_minD (hc : X.calm = true) (hu : X.A.units + 64 < cLine) : CallR X (.builtin "min") (rMinD X.K) := by
  intro pins s σ H vs us Q I r h
  obtain ⟨a, xs, d, ds, rfl, hs, hd, ha, hdp, q⟩ := h
  obtain ⟨its, rv, hl, _⟩ := I.list hs
  rw [Vals.ref1 r]
  obtain ⟨as, rr⟩ := Dp.readsAll I (d :: ds) xs its hd rv
  refine min_list_data (I.ok.hd hc) hl.isList rr ha (by omega) fun i v h' tk bs hi hr hk => ?_
  have hi : its[i]? = some v := by simpa using hi
  obtain ⟨x, hx, rx⟩ := vals_at rv hi
  obtain ⟨bs2, r2, hlt, _, _⟩ := readsAll_at rr i v hi
  have e := (reads_det (fun b o e _ => hk b o e) r2 hr).1
  refine ⟨x, H, I.kept hk, rx, q i x hx ?_⟩
  rw [e, List.getD_eq_getElem?_getD, List.getElem?_eq_getElem hlt]
  rfl
end
end L2
set_option maxHeartbeats 4000000
/-! Mk: enumerate, zip of two or three, over lists and tuples. -/
namespace Mk
open PySem PySem.Spec PyProof.Rows L2
/-- a list (b) or a tuple -/
def SqB (b : Bool) (K : PySem.W.Frag) (H : Hp) (a : Addr) (xs : List V) : Prop := if b = true then SqL K H a xs else SqT K H a xs
def ItB (b : Bool) (h : Heap) (it a : Addr) (i : Nat) : Prop := if b = true then h.IsListIter it a i else h.IsTupleIter it a i
def SeqB (b : Bool) (h : Heap) (a : Addr) (items : Array Value) : Prop := if b = true then h.IsList a items else h.IsTuple a items
def objB (b : Bool) (a : Addr) : Obj := { cls := .type (if b = true then "list_iterator" else "tuple_iterator"), data := .fields #[.ref a, .int 0 0] }
theorem seqB {X : Cx} {pins : List (Addr × Obj)} {σ : L2.St} {H : Hp} {s : Shared} (I : Inv X pins σ H s) {b : Bool} {a : Addr} {xs : List V} (h : SqB b X.K H a xs) : ∃ its, Vals xs its ∧ SeqB b s.heap a its.toArray ∧ a < s.heap.objs.size := by
  cases b with
  | true =>
    obtain ⟨its, rv, p, hz⟩ := I.list h
    exact ⟨its, rv, p.isList, p.lt⟩
  | false =>
    obtain ⟨its, rv, p, hz⟩ := I.tuple h
    have p' : s.heap.IsTuple a its.toArray := p
    obtain ⟨o, e, _⟩ := p'
    exact ⟨its, rv, p, Heap.lt_size e⟩
theorem injB {X : Cx} {pins : List (Addr × Obj)} {σ : L2.St} {H : Hp} {s : Shared} (I : Inv X pins σ H s) {b : Bool} {a : Addr} {xs ys : List V} (h : SqB b X.K H a xs) (h' : SqB b X.K H a ys) : xs = ys := by
  cases b with
  | true => exact I.list_inj h h'
  | false => exact I.tuple_inj h h'
theorem drawsB {prog : Program} {w : World} {A : Around} (hh : A.handled = none) (b : Bool) {it a : Addr} (hne : a ≠ it) (items : Array Value) :
    Draws prog w A it [it, a] items.size (fun i v => items[i]? = some v) (fun i h => ItB b h it a i ∧ SeqB b h a items) := by
  cases b with
  | true => exact Draws.list hh it a hne items
  | false => exact Draws.tuple hh it a hne items
theorem beginsB (b : Bool) (a : Addr) (items : Array Value) : Begins (.ref a) (objB b a) fun h => SeqB b h a items := by
  cases b with
  | true => exact begins_list a items
  | false => exact begins_tuple a items
theorem itB_new {b : Bool} {h : Heap} {it a : Addr} (e : h.get? it = some (objB b a)) : ItB b h it a 0 := by
  cases b with
  | true => exact ⟨_, e, rfl, rfl⟩
  | false => exact ⟨_, e, rfl, rfl⟩
theorem itB_obj {b : Bool} {h : Heap} {it a : Addr} {i : Nat} (st : ItB b h it a i) : ∃ o, h.get? it = some o ∧ ∀ vs n, o.data ≠ .seq vs n := by
  cases b with
  | true => obtain ⟨o, e, c, d⟩ := st; exact ⟨o, e, fun v n z => by rw [d] at z; cases z⟩
  | false => obtain ⟨o, e, c, d⟩ := st; exact ⟨o, e, fun v n z => by rw [d] at z; cases z⟩
theorem itB_at {b : Bool} {h h' : Heap} {it a : Addr} {i : Nat} (st : ItB b h it a i) (k : ∀ o, h.get? it = some o → h'.get? it = some o) : ItB b h' it a i := by
  cases b with
  | true => exact Heap.IsListIter.at st k
  | false => exact Heap.IsTupleIter.at st k
theorem seqB_obj {b : Bool} {h : Heap} {a : Addr} {items : Array Value} (st : SeqB b h a items) : ∃ o vs n, h.get? a = some o ∧ o.data = .seq vs n := by
  cases b with
  | true => obtain ⟨o, e, c, n, d⟩ := st; exact ⟨o, _, n, e, d⟩
  | false => obtain ⟨o, e, c, n, d⟩ := st; exact ⟨o, _, n, e, d⟩
theorem neB {b b' : Bool} {h : Heap} {it a a' : Addr} {i : Nat} {items : Array Value} (st : ItB b h it a' i) (sq : SeqB b' h a items) : a ≠ it := by
  rintro rfl
  obtain ⟨o, e, n⟩ := itB_obj st
  obtain ⟨o', vs, m, e', d⟩ := seqB_obj sq
  rw [e] at e'; cases e'
  exact n _ _ d
/-! ### enumerate -/
def IteB (b : Bool) (K : PySem.W.Frag) (a : Addr) : It :=
  ⟨fun i H => ∃ (xs : List V) (x : V), SqB b K H a xs ∧ xs[i]? = some x, fun i H v H' => ∃ T x, v = .ref T ∧ H T = none ∧ H' = upd H T (.tup [.int (i : Nat), x]) ∧ ∀ xs, SqB b K H a xs → xs[i]? = some x, fun i H => ∃ xs : List V, SqB b K H a xs ∧ xs.length = i⟩
theorem turn_enumB {P : Program} {w : World} {K : PySem.W.Frag} {elts : List Expr} {kk : Nat} {tpos : Pos} (b : Bool) (a e it : Addr) :
    Turn P w K (.Tuple elts kk tpos) (IteB b K a) [e, it] e (fun i h => (∃ old, IsEnum h e it ((i : Nat) : Int) old) ∧ ItB b h it a i ∧ e ≠ it) where
  mem := by simp
  obj := fun i h st c hc => by
    obtain ⟨⟨old, he⟩, hit, _⟩ := st
    have e' : c = e ∨ c = it := by simpa using hc
    rcases e' with z | z
    · rw [z]; exact ⟨_, he, fun v q => nomatch q⟩
    · rw [z]
      cases b with
      | true => obtain ⟨o, ho, _, hd⟩ := hit; exact ⟨o, ho, fun v q => by rw [hd] at q; cases q⟩
      | false => obtain ⟨o, ho, _, hd⟩ := hit; exact ⟨o, ho, fun v q => by rw [hd] at q; cases q⟩
  keep := fun i h h' st k => let ⟨⟨old, he⟩, hi, hne⟩ := st; ⟨⟨old, k e (by simp) _ he⟩, itB_at hi fun o q => k it (by simp) o q, hne⟩
  item := by
    intro X hP hw hK hc i pins s σ H E I hf st hg
    subst hP hw hK
    obtain ⟨⟨old, he⟩, hit, hne⟩ := st
    obtain ⟨xs, x, hq, hx⟩ := hg
    obtain ⟨its, rv, p, hlt⟩ := seqB I hq
    obtain ⟨u, hu, ru⟩ := rv.get hx
    have hel : e < s.heap.objs.size := Heap.lt_size he
    have hil : it < s.heap.objs.size := by obtain ⟨_, q, _⟩ := itB_obj hit; exact Heap.lt_size q
    have nai : a ≠ it := neB hit p
    have nea : e ∉ [it, a] := by
      intro hm
      have : e = it ∨ e = a := by simpa using hm
      rcases this with z | z
      · exact hne z
      · subst z
        obtain ⟨o', vs, m, e', d⟩ := seqB_obj p
        have he' : s.heap.get? e = some _ := he
        rw [e'] at he'
        cases he'
        cases d
    have hi : i < its.toArray.size := by
      have := (List.getElem?_eq_some_iff.mp hu).1
      simpa using this
    refine wpAny_pyNext_enum_itemD (D := drawsB (prog := X.prog) (w := X.w) (A := X.A.in1) (show X.A.in1.handled = none from I.ok.hd hc) b nai its.toArray) he ⟨hit, p⟩ hi hne nea fun y h' tk hy ho hst hT hsz hk => ?_
    have hyu : y = u := by
      have h2 : its[i]? = some y := by simpa using hy
      rw [hu] at h2; cases h2; rfl
    subst hyu
    refine ⟨_, rfl, wpAny_letOwnedTupleGo_enum (s := { s with heap := h', toks := tk + 1 }) ho fun h'' he' sb => ?_⟩
    have hT2 : h''.get? s.heap.objs.size = some { cls := .type "tuple", data := .seq #[.int i tk, y] } := (sb.2 _ (Nat.ne_of_gt hel)).trans hT
    have new : ObjOk X.prog X.w (upd H s.heap.objs.size (.tup [.int (i : Nat), x])) h'' s.heap.objs.size (.tup [.int (i : Nat), x]) :=
      ⟨by show 2 ≤ sizeLine; decide, [.int i tk, y], .cons ⟨_, rfl⟩ (.cons ru .nil), ⟨_, hT2, rfl, _, rfl⟩⟩
    have I1 : Inv X pins σ (upd H s.heap.objs.size (.tup [.int (i : Nat), x])) { s with heap := h'', toks := tk + 1 } :=
      I.turnedNew (ch := [e, it]) (fun c ob hb q => (sb.2 c (fun z => hb (by simp [z]))).trans (hk c ob (fun z => hb (by simp [z])) (fun z => hb (by simp [z])) q)) hf (Nat.le_refl _) new
    refine ⟨.ref s.heap.objs.size, _, I1, rfl, ⟨_, x, rfl, I.hok.fresh (Nat.le_refl _), rfl, fun ys hy => by rw [injB I hy hq]; exact hx⟩, ⟨⟨y, ?_⟩, itB_at hst.1 fun o q => (sb.2 it (Ne.symm hne)).trans q, hne⟩, fun c hc => ?_⟩
    · have e1 : ((i + 1 : Nat) : Int) = (i : Int) + 1 := by omega
      rw [e1]; exact he'
    · have hb' : c < s.heap.objs.size := by
        have e' : c = e ∨ c = it := by simpa using hc
        rcases e' with z | z
        · rw [z]; exact hel
        · rw [z]; exact hil
      rw [upd_ne (Nat.ne_of_lt hb')]
      exact (hf c hc).1
  done := by
    intro X hP hw hK hc i pins s σ H E I hf st hg
    subst hP hw hK
    obtain ⟨⟨old, he⟩, hit, hne⟩ := st
    obtain ⟨xs, hq, hx⟩ := hg
    obtain ⟨its, rv, p, hlt⟩ := seqB I hq
    obtain ⟨f0, f1, f2, f3, f4, f5⟩ := hf it (by simp)
    have hl := rv.length
    have nai : a ≠ it := neB hit p
    have hs : i = its.toArray.size := by simp; omega
    subst hs
    exact wpAny_pyNext_enum_endD (D := drawsB (prog := X.prog) (w := X.w) (A := X.A.in1) (show X.A.in1.handled = none from I.ok.hd hc) b nai its.toArray) he ⟨hit, p⟩ fun h' eb => ⟨rfl, I.turned (t' := s.toks) (fun b o hb q => eb b o hb q) f0 f1 f3 f4 f5⟩
  self := fun A i s Q E st h => let ⟨⟨_, he⟩, _⟩ := st; wpAny_pyIter_enum he h
theorem meets_enum1B {v : Value} {o : Obj} {H : Heap → Prop} (B : Begins v o H) :
    Meets (Builtin.«enumerate.__new__» ⟨[.type "enumerate", v], []⟩) (fun _ R s => H s.heap ∧
      R (.ok (.ret (.ref (s.heap.push o).objs.size))) { s with heap := (s.heap.push o).push { cls := .type "enumerate", data := .fields #[.none, .bool false, .ref s.heap.objs.size, rawInt 0, .none, .none] } }) :=
  .of_wp fun prog w A R s h => by
    obtain ⟨hp, g, d, tk, os⟩ := s; obtain ⟨h1, h⟩ := h
    have hsub := sub_enumerate
    have q1 : ∀ {A' : Around} {E : Value → Shared → Prop} {Q : Value → Shared → Prop}, Q (.ref hp.objs.size) ⟨hp.push o, g, d, tk, os⟩ → wpAny (model prog w) A' (pyIter v) Q E ⟨hp, g, d, tk, os⟩ :=
      fun q => B.iter prog w _ _ ⟨hp, g, d, tk, os⟩ _ h1 q
    wp_walk using q1
    refine wpAny_stack_any fun st => wpAny_pure ?_
    split
    · rename_i c _ _ _ _ _
      cases (c == Value.type "enumerate")
      · wp_walk using q1
        exact ⟨_, rfl, h⟩
      · wp_walk using q1
        exact ⟨_, rfl, h⟩
    · wp_walk using q1
      exact ⟨_, rfl, h⟩
theorem enum1_begins {prog : Program} {w : World} {A : Around} {E : Value → Shared → Prop} {s : Shared} {v : Value} {o : Obj} {H : Heap → Prop} {Q : Value → Shared → Prop} (B : Begins v o H) (h1 : H s.heap)
    (h : ∀ h', IsEnum h' (s.heap.objs.size + 1) s.heap.objs.size 0 .none → h'.get? s.heap.objs.size = some o → h'.objs.size = s.heap.objs.size + 2 →
      (∀ b o, s.heap.get? b = some o → h'.get? b = some o) → Q (.ref (s.heap.objs.size + 1)) { s with heap := h' }) :
    wpAny (model prog w) A (call (.type "enumerate") [v]) Q E s := by
  refine callType_new F.called_enumerate (by decide) (F.typeCall_enumerate_1 _) (F.newCall_enumerate_1 _) (fun obj => F.args_object_init_2 obj _) F.entry_enumerate_new
    (meets_enum1B B) ⟨h1, ?_⟩
  have hz : (s.heap.push o).objs.size = s.heap.objs.size + 1 := Heap.size_push ..
  show _ ∧ _
  rw [hz]
  have he : IsEnum ((s.heap.push o).push { cls := .type "enumerate", data := .fields #[.none, .bool false, .ref s.heap.objs.size, rawInt 0, .none, .none] }) (s.heap.objs.size + 1) s.heap.objs.size 0 .none := by
    have := Heap.get?_push_size (s.heap.push o) (o := { cls := .type "enumerate", data := .fields #[.none, .bool false, .ref s.heap.objs.size, rawInt 0, .none, .none] }) rfl
    rw [hz] at this; exact this
  refine ⟨⟨_, he, rfl⟩, h _ he (Heap.get?_push_of_some _ (Heap.get?_push_size _ B.free)) (by rw [Heap.size_push, hz]) fun b o x => Heap.get?_push_of_some _ (Heap.get?_push_of_some _ x)⟩
def iEnumB (K : PySem.W.Frag) (ta : TA) : TI := fun σ H R => ta σ H fun vs H1 => ∃ a b xs, vs = [.ref a] ∧ SqB b K H1 a xs ∧ R (IteB b K a) H1
theorem pi_enumB {X : Cx} {e : Expr} {ta : TA} {p pos tpos : Pos} {elts : List Expr} {kk : Nat} (hg : Gl X "enumerate") (hm : X.mg "enumerate" = none) (ha : PA X [e] ta) (hs : starEach [e] X.env = [(false, eval e X.env)] := by rfl) :
    PI X (.Tuple elts kk tpos) (.Call (.Name "enumerate" p) [e] [] pos) (iEnumB X.K ta) := by
  refine ⟨fun pins s σ H R I h => ?_⟩
  refine Call_ (ld_blt I hg hm boot_enumerate (PyProof.Rows.callWith_type1 (thn (ha.run pos pins s σ H _ I h) fun us s1 ⟨vs, H1, I1, r1, q1⟩ => ?_) hs rfl))
  obtain ⟨a, b, xs, ex, hq, q⟩ := q1
  subst ex
  cases r1 with
  | cons r rr =>
    cases rr
    cases r
    obtain ⟨its, rv, p', hlt⟩ := seqB I1 hq
    refine enum1_begins (beginsB b a its.toArray) p' fun h' he hit hsz hk => wpAny_pyIter_enum he ?_
    have I2 : Inv X pins σ H1 { s1 with heap := h' } := I1.kept (t' := s1.toks) hk
    refine ⟨s1.heap.objs.size + 1, [s1.heap.objs.size + 1, s1.heap.objs.size], _, _, H1, rfl, I2, turn_enumB b a (s1.heap.objs.size + 1) s1.heap.objs.size, ⟨⟨.none, he⟩, itB_new hit, Nat.succ_ne_self _⟩, fun c hb => ?_, q⟩
    have e' : c = s1.heap.objs.size + 1 ∨ c = s1.heap.objs.size := by simpa using hb
    have hle : s1.heap.objs.size ≤ c := by
      rcases e' with z | z
      · rw [z]; exact Nat.le_add_right _ _
      · rw [z]; exact Nat.le_refl _
    exact I1.fpOk hle (I1.hok.fresh hle)
theorem walk_enumB {b : Bool} {K : PySem.W.Frag} {a : Addr} {xs : List V} : Walk (IteB b K a) xs.length (fun H => SqB b K H a xs) (YPair (fun i => some (.int (i : Nat))) (fun i => xs[i]?)) := by
  refine ⟨fun i _ hi q => ?_, fun _ q => ⟨xs, q, rfl⟩, fun i H v H' _ q y => ?_⟩
  · exact ⟨xs, xs[i], q, by simp [hi]⟩
  · obtain ⟨T, x, h1, h2, h3, h4⟩ := y
    exact ⟨T, _, x, h1, h2, h3, rfl, h4 xs q⟩
/-! ### zip of two -/
theorem lenB {its : List Value} {xs : List V} (rv : Vals xs its) : its.toArray.size = xs.length := by
  have := rv.length
  simp; omega
def ItzB (b1 b2 : Bool) (K : PySem.W.Frag) (a1 a2 : Addr) : It :=
  ⟨fun i H => ∃ (xs ys : List V) (x y : V), SqB b1 K H a1 xs ∧ SqB b2 K H a2 ys ∧ xs[i]? = some x ∧ ys[i]? = some y,
    fun i H v H' => ∃ T x y, v = .ref T ∧ H T = none ∧ H' = upd H T (.tup [x, y]) ∧ (∀ xs, SqB b1 K H a1 xs → xs[i]? = some x) ∧ ∀ ys, SqB b2 K H a2 ys → ys[i]? = some y,
    fun i H => ∃ xs ys : List V, SqB b1 K H a1 xs ∧ SqB b2 K H a2 ys ∧ i ≤ xs.length ∧ i ≤ ys.length ∧ (i = xs.length ∨ i = ys.length)⟩
theorem turn_zipB {P : Program} {w : World} {K : PySem.W.Frag} {elts : List Expr} {kk : Nat} {tpos : Pos} (b1 b2 : Bool) {a1 a2 z TI TO i1 i2 : Addr} (S : ZipSep2 z TI TO i1 i2 [i1, a1] [i2, a2]) :
    Turn P w K (.Tuple elts kk tpos) (ItzB b1 b2 K a1 a2) [z, TI, TO, i1, i2] z (fun i h => IsZip h z TI TO .none ∧ IsTupOf2 h TI (.ref i1) (.ref i2) ∧ (∃ x y, IsTupOf2 h TO x y) ∧ ItB b1 h i1 a1 i ∧ ItB b2 h i2 a2 i) where
  mem := by simp
  obj := fun i h st c hc => by
    obtain ⟨hz, hTI, ⟨x, y, hTO⟩, h1, h2⟩ := st
    have e' : c = z ∨ c = TI ∨ c = TO ∨ c = i1 ∨ c = i2 := by simpa using hc
    have ob : ∀ {b : Bool} {it a : Addr}, ItB b h it a i → ∃ o, h.get? it = some o ∧ ∀ v, o.data ≠ .cell v := fun {b it a} hit => by
      obtain ⟨o, ho, n⟩ := itB_obj hit
      exact ⟨o, ho, fun v q => by
        cases b with
        | true => obtain ⟨o', ho', _, hd⟩ := hit; rw [ho] at ho'; cases ho'; rw [hd] at q; cases q
        | false => obtain ⟨o', ho', _, hd⟩ := hit; rw [ho] at ho'; cases ho'; rw [hd] at q; cases q⟩
    rcases e' with q | q | q | q | q
    · rw [q]; exact ⟨_, hz, fun v q => nomatch q⟩
    · rw [q]; exact ⟨_, hTI, fun v q => nomatch q⟩
    · rw [q]; exact ⟨_, hTO, fun v q => nomatch q⟩
    · rw [q]; exact ob h1
    · rw [q]; exact ob h2
  keep := fun i h h' st k => by
    obtain ⟨hz, hTI, ⟨x, y, hTO⟩, h1, h2⟩ := st
    exact ⟨k z (by simp) _ hz, k TI (by simp) _ hTI, ⟨x, y, k TO (by simp) _ hTO⟩, itB_at h1 fun o q => k i1 (by simp) o q, itB_at h2 fun o q => k i2 (by simp) o q⟩
  item := by
    intro X hP hw hK hc i pins s σ H E I hf st hg
    subst hP hw hK
    obtain ⟨hz, hTI, ⟨x0, y0, hTO⟩, h1, h2⟩ := st
    obtain ⟨xs, ys, x, y, hqx, hqy, hx, hy⟩ := hg
    obtain ⟨its, rv, p, _⟩ := seqB I hqx
    obtain ⟨its2, rv2, p2, _⟩ := seqB I hqy
    obtain ⟨u, hu, ru⟩ := rv.get hx
    obtain ⟨u2, hu2, ru2⟩ := rv2.get hy
    have hzl : z < s.heap.objs.size := Heap.lt_size hz
    have q1 : i < its.toArray.size := by rw [lenB rv]; exact (List.getElem?_eq_some_iff.mp hx).1
    have q2 : i < its2.toArray.size := by rw [lenB rv2]; exact (List.getElem?_eq_some_iff.mp hy).1
    have D1 : Draws X.prog X.w X.A.in1 i1 [i1, a1] its.toArray.size (fun i v => its.toArray[i]? = some v) (fun i h => ItB b1 h i1 a1 i ∧ SeqB b1 h a1 its.toArray) := drawsB (show X.A.in1.handled = none from I.ok.hd hc) b1 (neB h1 p) its.toArray
    have D2 : Draws X.prog X.w X.A.in1 i2 [i2, a2] its2.toArray.size (fun i v => its2.toArray[i]? = some v) (fun i h => ItB b2 h i2 a2 i ∧ SeqB b2 h a2 its2.toArray) := drawsB (show X.A.in1.handled = none from I.ok.hd hc) b2 (neB h2 p2) its2.toArray
    refine wpAny_pyNext_zipD2_item S D1 D2 hz hTI hTO ⟨h1, p⟩ ⟨h2, p2⟩ q1 q2 fun v1 v2 h' tk y1 y2 z' TO' st1 st2 hT hsz hk => ?_
    have e1 : v1 = u := by
      have h2 : its[i]? = some v1 := by simpa using y1
      rw [hu] at h2; cases h2; rfl
    have e2 : v2 = u2 := by
      have h2 : its2[i]? = some v2 := by simpa using y2
      rw [hu2] at h2; cases h2; rfl
    subst e1 e2
    refine ⟨_, rfl, wpAny_letOwnedTupleGo_zip (s := { s with heap := h', toks := tk }) z' fun h'' z'' sb => ?_⟩
    have hT2 : h''.get? s.heap.objs.size = some { cls := .type "tuple", data := .seq #[v1, v2] } := (sb.2 _ (Nat.ne_of_gt hzl)).trans hT
    have new : ObjOk X.prog X.w (upd H s.heap.objs.size (.tup [x, y])) h'' s.heap.objs.size (.tup [x, y]) :=
      ⟨by show 2 ≤ sizeLine; decide, [v1, v2], .cons ru (.cons ru2 .nil), ⟨_, hT2, rfl, _, rfl⟩⟩
    have I1 : Inv X pins σ (upd H s.heap.objs.size (.tup [x, y])) { s with heap := h'', toks := tk } :=
      I.turnedNew (t' := tk) (ch := [z, TI, TO, i1, i2]) (fun c o hb q => (sb.2 c (fun q' => hb (by simp [q']))).trans (hk c o (fun q' => hb (by simp [q'])) (fun q' => hb (by simp [q'])) (fun q' => hb (by simp [q'])) (fun q' => hb (by simp [q'])) q)) hf (Nat.le_refl _) new
    have i1z : i1 ≠ z := Ne.symm S.zi1
    have i2z : i2 ≠ z := Ne.symm S.zi2
    refine ⟨.ref s.heap.objs.size, _, I1, rfl, ⟨_, x, y, rfl, I.hok.fresh (Nat.le_refl _), rfl, fun l hl => by rw [injB I hl hqx]; exact hx, fun l hl => by rw [injB I hl hqy]; exact hy⟩, ⟨z'', ?_, ⟨v1, v2, ?_⟩, ?_, ?_⟩, fun c hcm => ?_⟩
    · exact (sb.2 _ S.TIz).trans (hk _ _ S.TIz S.TITO S.TIi1 S.TIi2 hTI)
    · exact (sb.2 _ S.TOz).trans TO'
    · exact itB_at st1.1 fun o q => (sb.2 _ i1z).trans q
    · exact itB_at st2.1 fun o q => (sb.2 _ i2z).trans q
    · have hlt : c < s.heap.objs.size := by
        have e' : c = z ∨ c = TI ∨ c = TO ∨ c = i1 ∨ c = i2 := by simpa using hcm
        rcases e' with q | q | q | q | q
        · rw [q]; exact hzl
        · rw [q]; exact Heap.lt_size hTI
        · rw [q]; exact Heap.lt_size hTO
        · rw [q]; obtain ⟨_, e1, _⟩ := itB_obj h1; exact Heap.lt_size e1
        · rw [q]; obtain ⟨_, e2, _⟩ := itB_obj h2; exact Heap.lt_size e2
      rw [upd_ne (Nat.ne_of_lt hlt)]
      exact (hf c hcm).1
  done := by
    intro X hP hw hK hc i pins s σ H E I hf st hg
    subst hP hw hK
    obtain ⟨hz, hTI, ⟨x0, y0, hTO⟩, h1, h2⟩ := st
    obtain ⟨xs, ys, hqx, hqy, l1, l2, hend⟩ := hg
    obtain ⟨its, rv, p, _⟩ := seqB I hqx
    obtain ⟨its2, rv2, p2, _⟩ := seqB I hqy
    have D1 : Draws X.prog X.w X.A.in1 i1 [i1, a1] its.toArray.size (fun i v => its.toArray[i]? = some v) (fun i h => ItB b1 h i1 a1 i ∧ SeqB b1 h a1 its.toArray) := drawsB (show X.A.in1.handled = none from I.ok.hd hc) b1 (neB h1 p) its.toArray
    have D2 : Draws X.prog X.w X.A.in1 i2 [i2, a2] its2.toArray.size (fun i v => its2.toArray[i]? = some v) (fun i h => ItB b2 h i2 a2 i ∧ SeqB b2 h a2 its2.toArray) := drawsB (show X.A.in1.handled = none from I.ok.hd hc) b2 (neB h2 p2) its2.toArray
    exact wpAny_pyNext_zipD2_end S D1 D2 hz hTI hTO ⟨h1, p⟩ ⟨h2, p2⟩ (by rw [lenB rv]; exact l1) (by rw [lenB rv2]; exact l2) (by rw [lenB rv, lenB rv2]; exact hend) fun h' tk hk => ⟨rfl, I.turnedL (t' := tk) (ch := [z, TI, TO, i1, i2]) (fun c o hb q =>
      hk c o (fun q' => hb (by simp [q'])) (fun q' => hb (by simp [q'])) (fun q' => hb (by simp [q'])) (fun q' => hb (by simp [q'])) q) hf⟩
  self := fun A i s Q E st h => wpAny_pyIter_zip st.1 h
def iZipB (K : PySem.W.Frag) (ta : TA) : TI := fun σ H R => ta σ H fun vs H1 => ∃ a1 a2 b1 b2 xs ys, vs = [.ref a1, .ref a2] ∧ SqB b1 K H1 a1 xs ∧ SqB b2 K H1 a2 ys ∧ R (ItzB b1 b2 K a1 a2) H1
theorem pi_zipB {X : Cx} {e e2 : Expr} {ta : TA} {p pos tpos : Pos} {elts : List Expr} {kk : Nat} (hg : Gl X "zip") (hm : X.mg "zip" = none) (ha : PA X [e, e2] ta)
    (hs : starEach [e, e2] X.env = (false, eval e X.env) :: starEach [e2] X.env := by rfl) (hpl : (backTo pos (starEach [e2] X.env)).any (·.1) = false := by rfl) :
    PI X (.Tuple elts kk tpos) (.Call (.Name "zip" p) [e, e2] [] pos) (iZipB X.K ta) := by
  refine ⟨fun pins s σ H R I h => ?_⟩
  refine Call_ (ld_blt I hg hm PyProof.Rows.boot_zip (PyProof.Rows.callWith_type1 (thn (ha.run pos pins s σ H _ I h) fun us s1 ⟨vs, H1, I1, r1, q1⟩ => ?_) hs hpl))
  obtain ⟨a1, a2, b1, b2, xs, ys, ex, hqx, hqy, q⟩ := q1
  subst ex
  cases r1 with
  | cons r rr =>
    cases rr with
    | cons r' rr =>
      cases rr
      cases r
      cases r'
      obtain ⟨its, rv, p1, la⟩ := seqB I1 hqx
      obtain ⟨its2, rv2, p2, lb⟩ := seqB I1 hqy
      refine zip_begins2 (beginsB b1 a1 its.toArray) (beginsB b2 a2 its2.toArray) p1 p2 fun h' hz hTI hTO h1 h2 hsz hk => wpAny_pyIter_zip hz ?_
      have I2 : Inv X pins σ H1 { s1 with heap := h' } := I1.kept (t' := s1.toks) hk
      have sep := zip_sep2 (N := s1.heap.objs.size) (fp1 := [a1]) (fp2 := [a2]) (fun c hc => by rw [List.mem_singleton.mp hc]; exact la) (fun c hc => by rw [List.mem_singleton.mp hc]; exact lb)
      refine ⟨s1.heap.objs.size + 4, [s1.heap.objs.size + 4, s1.heap.objs.size + 2, s1.heap.objs.size + 3, s1.heap.objs.size, s1.heap.objs.size + 1], _, _, H1, rfl, I2, turn_zipB b1 b2 sep, ⟨hz, hTI, ⟨_, _, hTO⟩, itB_new h1, itB_new h2⟩, fun c hcm => ?_, q⟩
      have e' : c = s1.heap.objs.size + 4 ∨ c = s1.heap.objs.size + 2 ∨ c = s1.heap.objs.size + 3 ∨ c = s1.heap.objs.size ∨ c = s1.heap.objs.size + 1 := by simpa using hcm
      have hle : s1.heap.objs.size ≤ c := by
        rcases e' with z | z | z | z | z
        · rw [z]; exact Nat.le_add_right _ _
        · rw [z]; exact Nat.le_add_right _ _
        · rw [z]; exact Nat.le_add_right _ _
        · rw [z]; exact Nat.le_refl _
        · rw [z]; exact Nat.le_add_right _ _
      exact I1.fpOk hle (I1.hok.fresh hle)
theorem walk_zipB {b1 b2 : Bool} {K : PySem.W.Frag} {a1 a2 : Addr} {xs ys : List V} {n : Nat} (hn : n = min xs.length ys.length) : Walk (ItzB b1 b2 K a1 a2) n (fun H => SqB b1 K H a1 xs ∧ SqB b2 K H a2 ys) (YPair (fun i => xs[i]?) (fun i => ys[i]?)) := by
  subst hn
  refine ⟨fun i _ hi q => ?_, fun _ q => ⟨xs, ys, q.1, q.2, by omega, by omega, by omega⟩, fun i H v H' _ q y => ?_⟩
  · have h1 : i < xs.length := by omega
    have h2 : i < ys.length := by omega
    exact ⟨xs, ys, xs[i], ys[i], q.1, q.2, by simp [h1], by simp [h2]⟩
  · obtain ⟨T, x, z, h1, h2, h3, h4, h5⟩ := y
    exact ⟨T, x, z, h1, h2, h3, h4 xs q.1, h5 ys q.2⟩
/-! ### zip of three -/
theorem its3_get {its : List Value} {v u : Value} {i : Nat} (hu : its[i]? = some u) (y : its.toArray[i]? = some v) : v = u := by
  have h2 : its[i]? = some v := by simpa using y
  rw [hu] at h2; cases h2; rfl
def ItzB3 (b1 b2 b3 : Bool) (K : PySem.W.Frag) (a1 a2 a3 : Addr) : It :=
  ⟨fun i H => ∃ (xs ys zs : List V) (x y z : V), SqB b1 K H a1 xs ∧ SqB b2 K H a2 ys ∧ SqB b3 K H a3 zs ∧ xs[i]? = some x ∧ ys[i]? = some y ∧ zs[i]? = some z,
    fun i H v H' => ∃ T x y z, v = .ref T ∧ H T = none ∧ H' = upd H T (.tup [x, y, z]) ∧ (∀ xs, SqB b1 K H a1 xs → xs[i]? = some x) ∧ (∀ ys, SqB b2 K H a2 ys → ys[i]? = some y) ∧ ∀ zs, SqB b3 K H a3 zs → zs[i]? = some z,
    fun i H => ∃ xs ys zs : List V, SqB b1 K H a1 xs ∧ SqB b2 K H a2 ys ∧ SqB b3 K H a3 zs ∧ i ≤ xs.length ∧ i ≤ ys.length ∧ i ≤ zs.length ∧ (i = xs.length ∨ i = ys.length ∨ i = zs.length)⟩
theorem turn_zipB3 {P : Program} {w : World} {K : PySem.W.Frag} {elts : List Expr} {kk : Nat} {tpos : Pos} (b1 b2 b3 : Bool) {a1 a2 a3 z TI TO i1 i2 i3 : Addr} (S : ZipSep3 z TI TO i1 i2 i3 [i1, a1] [i2, a2] [i3, a3]) :
    Turn P w K (.Tuple elts kk tpos) (ItzB3 b1 b2 b3 K a1 a2 a3) [z, TI, TO, i1, i2, i3] z (fun i h => IsZip h z TI TO .none ∧ IsTupOf3 h TI (.ref i1) (.ref i2) (.ref i3) ∧ (∃ x y u, IsTupOf3 h TO x y u) ∧ ItB b1 h i1 a1 i ∧ ItB b2 h i2 a2 i ∧ ItB b3 h i3 a3 i) where
  mem := by simp
  obj := fun i h st c hc => by
    obtain ⟨hz, hTI, ⟨x, y, u, hTO⟩, h1, h2, h3⟩ := st
    have e' : c = z ∨ c = TI ∨ c = TO ∨ c = i1 ∨ c = i2 ∨ c = i3 := by simpa using hc
    have ob : ∀ {b : Bool} {it a : Addr}, ItB b h it a i → ∃ o, h.get? it = some o ∧ ∀ v, o.data ≠ .cell v := fun {b it a} hit => by
      obtain ⟨o, ho, n⟩ := itB_obj hit
      exact ⟨o, ho, fun v q => by
        cases b with
        | true => obtain ⟨o', ho', _, hd⟩ := hit; rw [ho] at ho'; cases ho'; rw [hd] at q; cases q
        | false => obtain ⟨o', ho', _, hd⟩ := hit; rw [ho] at ho'; cases ho'; rw [hd] at q; cases q⟩
    rcases e' with q | q | q | q | q | q
    · rw [q]; exact ⟨_, hz, fun v q => nomatch q⟩
    · rw [q]; exact ⟨_, hTI, fun v q => nomatch q⟩
    · rw [q]; exact ⟨_, hTO, fun v q => nomatch q⟩
    · rw [q]; exact ob h1
    · rw [q]; exact ob h2
    · rw [q]; exact ob h3
  keep := fun i h h' st k => by
    obtain ⟨hz, hTI, ⟨x, y, u, hTO⟩, h1, h2, h3⟩ := st
    exact ⟨k z (by simp) _ hz, k TI (by simp) _ hTI, ⟨x, y, u, k TO (by simp) _ hTO⟩, itB_at h1 fun o q => k i1 (by simp) o q, itB_at h2 fun o q => k i2 (by simp) o q, itB_at h3 fun o q => k i3 (by simp) o q⟩
  item := by
    intro X hP hw hK hc i pins s σ H E I hf st hg
    subst hP hw hK
    obtain ⟨hz, hTI, ⟨x0, y0, u0, hTO⟩, h1, h2, h3⟩ := st
    obtain ⟨xs, ys, zs, x, y, z', hqx, hqy, hqz, hx, hy, hz'⟩ := hg
    obtain ⟨its, rv, p, _⟩ := seqB I hqx
    obtain ⟨its2, rv2, p2, _⟩ := seqB I hqy
    obtain ⟨its3, rv3, p3, _⟩ := seqB I hqz
    obtain ⟨u, hu, ru⟩ := rv.get hx
    obtain ⟨u2, hu2, ru2⟩ := rv2.get hy
    obtain ⟨u3, hu3, ru3⟩ := rv3.get hz'
    have hzl : z < s.heap.objs.size := Heap.lt_size hz
    have q1 : i < its.toArray.size := by rw [lenB rv]; exact (List.getElem?_eq_some_iff.mp hx).1
    have q2 : i < its2.toArray.size := by rw [lenB rv2]; exact (List.getElem?_eq_some_iff.mp hy).1
    have q3 : i < its3.toArray.size := by rw [lenB rv3]; exact (List.getElem?_eq_some_iff.mp hz').1
    have hh : X.A.in1.handled = none := I.ok.hd hc
    have D1 : Draws X.prog X.w X.A.in1 i1 [i1, a1] its.toArray.size (fun i v => its.toArray[i]? = some v) (fun i h => ItB b1 h i1 a1 i ∧ SeqB b1 h a1 its.toArray) := drawsB hh b1 (neB h1 p) its.toArray
    have D2 : Draws X.prog X.w X.A.in1 i2 [i2, a2] its2.toArray.size (fun i v => its2.toArray[i]? = some v) (fun i h => ItB b2 h i2 a2 i ∧ SeqB b2 h a2 its2.toArray) := drawsB hh b2 (neB h2 p2) its2.toArray
    have D3 : Draws X.prog X.w X.A.in1 i3 [i3, a3] its3.toArray.size (fun i v => its3.toArray[i]? = some v) (fun i h => ItB b3 h i3 a3 i ∧ SeqB b3 h a3 its3.toArray) := drawsB hh b3 (neB h3 p3) its3.toArray
    refine wpAny_pyNext_zipD3_item S D1 D2 D3 hz hTI hTO ⟨h1, p⟩ ⟨h2, p2⟩ ⟨h3, p3⟩ q1 q2 q3 fun v1 v2 v3 h' tk y1 y2 y3 zz TO' st1 st2 st3 hT hsz hk => ?_
    have e1 : v1 = u := its3_get hu y1
    have e2 : v2 = u2 := its3_get hu2 y2
    have e3 : v3 = u3 := its3_get hu3 y3
    subst e1 e2 e3
    refine ⟨_, rfl, wpAny_letOwnedTupleGo_zip (s := { s with heap := h', toks := tk }) zz fun h'' z'' sb => ?_⟩
    have hT2 : h''.get? s.heap.objs.size = some { cls := .type "tuple", data := .seq #[v1, v2, v3] } := (sb.2 _ (Nat.ne_of_gt hzl)).trans hT
    have new : ObjOk X.prog X.w (upd H s.heap.objs.size (.tup [x, y, z'])) h'' s.heap.objs.size (.tup [x, y, z']) :=
      ⟨by show 3 ≤ sizeLine; decide, [v1, v2, v3], .cons ru (.cons ru2 (.cons ru3 .nil)), ⟨_, hT2, rfl, _, rfl⟩⟩
    have I1 : Inv X pins σ (upd H s.heap.objs.size (.tup [x, y, z'])) { s with heap := h'', toks := tk } :=
      I.turnedNew (t' := tk) (ch := [z, TI, TO, i1, i2, i3]) (fun c o hb q => (sb.2 c (fun q' => hb (by simp [q']))).trans (hk c o (fun q' => hb (by simp [q'])) (fun q' => hb (by simp [q'])) (fun q' => hb (by simp [q'])) (fun q' => hb (by simp [q'])) (fun q' => hb (by simp [q'])) q)) hf (Nat.le_refl _) new
    have i1z : i1 ≠ z := Ne.symm S.zi1
    have i2z : i2 ≠ z := Ne.symm S.zi2
    have i3z : i3 ≠ z := Ne.symm S.zi3
    refine ⟨.ref s.heap.objs.size, _, I1, rfl, ⟨_, x, y, z', rfl, I.hok.fresh (Nat.le_refl _), rfl, fun l hl => by rw [injB I hl hqx]; exact hx, fun l hl => by rw [injB I hl hqy]; exact hy, fun l hl => by rw [injB I hl hqz]; exact hz'⟩, ⟨z'', ?_, ⟨v1, v2, v3, ?_⟩, ?_, ?_, ?_⟩, fun c hcm => ?_⟩
    · exact (sb.2 _ S.TIz).trans (hk _ _ S.TIz S.TITO S.TIi1 S.TIi2 S.TIi3 hTI)
    · exact (sb.2 _ S.TOz).trans TO'
    · exact itB_at st1.1 fun o q => (sb.2 _ i1z).trans q
    · exact itB_at st2.1 fun o q => (sb.2 _ i2z).trans q
    · exact itB_at st3.1 fun o q => (sb.2 _ i3z).trans q
    · have hlt : c < s.heap.objs.size := by
        have e' : c = z ∨ c = TI ∨ c = TO ∨ c = i1 ∨ c = i2 ∨ c = i3 := by simpa using hcm
        rcases e' with q | q | q | q | q | q
        · rw [q]; exact hzl
        · rw [q]; exact Heap.lt_size hTI
        · rw [q]; exact Heap.lt_size hTO
        · rw [q]; obtain ⟨_, e1, _⟩ := itB_obj h1; exact Heap.lt_size e1
        · rw [q]; obtain ⟨_, e2, _⟩ := itB_obj h2; exact Heap.lt_size e2
        · rw [q]; obtain ⟨_, e3, _⟩ := itB_obj h3; exact Heap.lt_size e3
      rw [upd_ne (Nat.ne_of_lt hlt)]
      exact (hf c hcm).1
  done := by
    intro X hP hw hK hc i pins s σ H E I hf st hg
    subst hP hw hK
    obtain ⟨hz, hTI, ⟨x0, y0, u0, hTO⟩, h1, h2, h3⟩ := st
    obtain ⟨xs, ys, zs, hqx, hqy, hqz, l1, l2, l3, hend⟩ := hg
    obtain ⟨its, rv, p, _⟩ := seqB I hqx
    obtain ⟨its2, rv2, p2, _⟩ := seqB I hqy
    obtain ⟨its3, rv3, p3, _⟩ := seqB I hqz
    have hh : X.A.in1.handled = none := I.ok.hd hc
    have D1 : Draws X.prog X.w X.A.in1 i1 [i1, a1] its.toArray.size (fun i v => its.toArray[i]? = some v) (fun i h => ItB b1 h i1 a1 i ∧ SeqB b1 h a1 its.toArray) := drawsB hh b1 (neB h1 p) its.toArray
    have D2 : Draws X.prog X.w X.A.in1 i2 [i2, a2] its2.toArray.size (fun i v => its2.toArray[i]? = some v) (fun i h => ItB b2 h i2 a2 i ∧ SeqB b2 h a2 its2.toArray) := drawsB hh b2 (neB h2 p2) its2.toArray
    have D3 : Draws X.prog X.w X.A.in1 i3 [i3, a3] its3.toArray.size (fun i v => its3.toArray[i]? = some v) (fun i h => ItB b3 h i3 a3 i ∧ SeqB b3 h a3 its3.toArray) := drawsB hh b3 (neB h3 p3) its3.toArray
    exact wpAny_pyNext_zipD3_end S D1 D2 D3 hz hTI hTO ⟨h1, p⟩ ⟨h2, p2⟩ ⟨h3, p3⟩ (by rw [lenB rv]; exact l1) (by rw [lenB rv2]; exact l2) (by rw [lenB rv3]; exact l3) (by rw [lenB rv, lenB rv2, lenB rv3]; exact hend) fun h' tk hk => ⟨rfl, I.turnedL (t' := tk) (ch := [z, TI, TO, i1, i2, i3]) (fun c o hb q =>
      hk c o (fun q' => hb (by simp [q'])) (fun q' => hb (by simp [q'])) (fun q' => hb (by simp [q'])) (fun q' => hb (by simp [q'])) (fun q' => hb (by simp [q'])) q) hf⟩
  self := fun A i s Q E st h => wpAny_pyIter_zip st.1 h
def iZipB3 (K : PySem.W.Frag) (ta : TA) : TI := fun σ H R => ta σ H fun vs H1 => ∃ a1 a2 a3 b1 b2 b3 xs ys zs, vs = [.ref a1, .ref a2, .ref a3] ∧ SqB b1 K H1 a1 xs ∧ SqB b2 K H1 a2 ys ∧ SqB b3 K H1 a3 zs ∧ R (ItzB3 b1 b2 b3 K a1 a2 a3) H1
theorem pi_zipB3 {X : Cx} {e e2 e3 : Expr} {ta : TA} {p pos tpos : Pos} {elts : List Expr} {kk : Nat} (hg : Gl X "zip") (hm : X.mg "zip" = none) (ha : PA X [e, e2, e3] ta)
    (hs : starEach [e, e2, e3] X.env = (false, eval e X.env) :: starEach [e2, e3] X.env := by rfl) (hpl : (backTo pos (starEach [e2, e3] X.env)).any (·.1) = false := by rfl) :
    PI X (.Tuple elts kk tpos) (.Call (.Name "zip" p) [e, e2, e3] [] pos) (iZipB3 X.K ta) := by
  refine ⟨fun pins s σ H R I h => ?_⟩
  refine Call_ (ld_blt I hg hm PyProof.Rows.boot_zip (PyProof.Rows.callWith_type1 (thn (ha.run pos pins s σ H _ I h) fun us s1 ⟨vs, H1, I1, r1, q1⟩ => ?_) hs hpl))
  obtain ⟨a1, a2, a3, b1, b2, b3, xs, ys, zs, ex, hqx, hqy, hqz, q⟩ := q1
  subst ex
  cases r1 with
  | cons r rr =>
    cases rr with
    | cons r' rr =>
      cases rr with
      | cons r'' rr =>
        cases rr
        cases r
        cases r'
        cases r''
        obtain ⟨its, rv, p1, la⟩ := seqB I1 hqx
        obtain ⟨its2, rv2, p2, lb⟩ := seqB I1 hqy
        obtain ⟨its3, rv3, p3, lc⟩ := seqB I1 hqz
        refine zip_begins3 (beginsB b1 a1 its.toArray) (beginsB b2 a2 its2.toArray) (beginsB b3 a3 its3.toArray) p1 p2 p3 fun h' hz hTI hTO h1 h2 h3 hsz hk => wpAny_pyIter_zip hz ?_
        have I2 : Inv X pins σ H1 { s1 with heap := h' } := I1.kept (t' := s1.toks) hk
        have sep := zip_sep3 (N := s1.heap.objs.size) (fp1 := [a1]) (fp2 := [a2]) (fp3 := [a3]) (fun c hc => by rw [List.mem_singleton.mp hc]; exact la) (fun c hc => by rw [List.mem_singleton.mp hc]; exact lb) (fun c hc => by rw [List.mem_singleton.mp hc]; exact lc)
        refine ⟨s1.heap.objs.size + 5, [s1.heap.objs.size + 5, s1.heap.objs.size + 3, s1.heap.objs.size + 4, s1.heap.objs.size, s1.heap.objs.size + 1, s1.heap.objs.size + 2], _, _, H1, rfl, I2, turn_zipB3 b1 b2 b3 sep, ⟨hz, hTI, ⟨_, _, _, hTO⟩, itB_new h1, itB_new h2, itB_new h3⟩, fun c hcm => ?_, q⟩
        have e' : c = s1.heap.objs.size + 5 ∨ c = s1.heap.objs.size + 3 ∨ c = s1.heap.objs.size + 4 ∨ c = s1.heap.objs.size ∨ c = s1.heap.objs.size + 1 ∨ c = s1.heap.objs.size + 2 := by simpa using hcm
        have hle : s1.heap.objs.size ≤ c := by
          rcases e' with z | z | z | z | z | z
          · rw [z]; exact Nat.le_add_right _ _
          · rw [z]; exact Nat.le_add_right _ _
          · rw [z]; exact Nat.le_add_right _ _
          · rw [z]; exact Nat.le_refl _
          · rw [z]; exact Nat.le_add_right _ _
          · rw [z]; exact Nat.le_add_right _ _
        exact I1.fpOk hle (I1.hok.fresh hle)
/-- a new triple of the i-th of each -/
def YTrip (xs ys zs : Nat → Option V) : Nat → Hp → V → Hp → Prop := fun i H v H' => ∃ T x y z, v = .ref T ∧ H T = none ∧ H' = upd H T (.tup [x, y, z]) ∧ xs i = some x ∧ ys i = some y ∧ zs i = some z
theorem walk_zipB3 {b1 b2 b3 : Bool} {K : PySem.W.Frag} {a1 a2 a3 : Addr} {xs ys zs : List V} {n : Nat} (hn : n = min xs.length (min ys.length zs.length)) : Walk (ItzB3 b1 b2 b3 K a1 a2 a3) n (fun H => SqB b1 K H a1 xs ∧ SqB b2 K H a2 ys ∧ SqB b3 K H a3 zs) (YTrip (fun i => xs[i]?) (fun i => ys[i]?) (fun i => zs[i]?)) := by
  subst hn
  refine ⟨fun i _ hi q => ?_, fun _ q => ⟨xs, ys, zs, q.1, q.2.1, q.2.2, by omega, by omega, by omega, by omega⟩, fun i H v H' _ q y => ?_⟩
  · have h1 : i < xs.length := by omega
    have h2 : i < ys.length := by omega
    have h3 : i < zs.length := by omega
    exact ⟨xs, ys, zs, xs[i], ys[i], zs[i], q.1, q.2.1, q.2.2, by simp [h1], by simp [h2], by simp [h3]⟩
  · obtain ⟨T, x, z, u, h1, h2, h3, h4, h5, h6⟩ := y
    exact ⟨T, x, z, u, h1, h2, h3, h4 xs q.1, h5 ys q.2.1, h6 zs q.2.2⟩
end Mk
/-! Mk: values as trees, slots that own what may change, a small language for the defs, its run. -/
namespace Mk
open PySem L2

/-- a class of the text: where it stands, its fields -/
structure ClsI where
  C : Addr
  fs : List Str
  deriving DecidableEq
/-- a value that never changes any more -/
inductive T where
  | non | bl (b : Bool) | int (i : Int) | str (x : Str)
  | tup (xs : List T) | lst (xs : List T) | rd (ns : List Int)
  | dK (kvs : List (Key × T)) | dT (kvs : List (List Key × T))
  | ob (ci : ClsI) (ts : List T) | cl (ci : ClsI)

/-- what may change: a list, a dict of its own; or a value -/
inductive B where
  | fz (t : T) | ls (ts : List T) | dk (kvs : List (Key × T)) | dt (kvs : List (List Key × T))
/-- a slot's content: such a thing, or an object with its fields -/
inductive M where
  | bx (x : B) | ob (c : ClsI) (fs : List (Option B))
abbrev Slots := List (Option M)

def B.frz : B → T
  | .fz t => t | .ls ts => .lst ts | .dk k => .dK k | .dt k => .dT k
/-- all fields, where all have one -/
def frzFs : List (Option B) → Option (List T)
  | [] => some []
  | some x :: r => (frzFs r).map (x.frz :: ·)
  | none :: _ => none
def M.frz : M → Option T
  | .bx x => some x.frz
  | .ob c fs => (frzFs fs).map (.ob c ·)
abbrev mt (t : T) : M := .bx (.fz t)

def bnd {α β γ : Type} (x : Option (α × β)) (f : α → β → Option γ) : Option γ :=
  match x with
  | none => none
  | some p => f p.1 p.2
@[simp] theorem bnd_none {α β γ : Type} (f : α → β → Option γ) : bnd none f = none := id rfl
@[simp] theorem bnd_ok {α β γ : Type} (a : α) (b : β) (f : α → β → Option γ) : bnd (some (a, b)) f = f a b := id rfl
theorem bnd_some {α β γ : Type} {x : Option (α × β)} {f : α → β → Option γ} {z : γ} (h : bnd x f = some z) : ∃ a b, x = some (a, b) ∧ f a b = some z := by
  cases x with
  | none => cases h
  | some p => exact ⟨p.1, p.2, rfl, h⟩
def obd {α γ : Type} (x : Option α) (f : α → Option γ) : Option γ :=
  match x with
  | none => none
  | some p => f p
@[simp] theorem obd_none {α γ : Type} (f : α → Option γ) : obd none f = none := id rfl
@[simp] theorem obd_ok {α γ : Type} (a : α) (f : α → Option γ) : obd (some a) f = f a := id rfl
theorem obd_some {α γ : Type} {x : Option α} {f : α → Option γ} {z : γ} (h : obd x f = some z) : ∃ a, x = some a ∧ f a = some z := by
  cases x with
  | none => cases h
  | some p => exact ⟨p, rfl, h⟩

inductive Prim where
  | add | sub | mul | fdiv | mod | pow | neg
  | eq | ne | lt | le | gt | ge | isN | notN
  | idx
  | isb | notb | inn | nin | rev | max3
  | len | abs | int | sum | max1 | min1 | max2 | min2 | sorted | all | any | list | tuple
  deriving DecidableEq

/-- the built-in classes that isinstance asks for -/
inductive Ty where
  | int | bool | str | list | tuple | none
  deriving DecidableEq

inductive Tg where
  | nm (i : Nat)
  | t2 (a b : Tg) | t3 (a b c : Tg) | t4 (a b c d : Tg)

/-! ### by values -/
mutual
def T.toD : T → Option PyData
  | .non => some .none
  | .bl b => some (.bool b)
  | .int i => some (.int i)
  | .str x => some (.str x)
  | .tup xs => (T.toDs xs).map .tuple
  | .lst xs => (T.toDs xs).map .list
  | _ => none
def T.toDs : List T → Option (List PyData)
  | [] => some []
  | x :: xs => match x.toD, T.toDs xs with
    | some d, some ds => some (d :: ds)
    | _, _ => none
end
def ri (i : Int) : Option M := some (mt (.int i))
def rb (b : Bool) : Option M := some (mt (.bl b))
def pAdd : T → T → Option M
  | .int a, .int b => ri (a + b)
  | .str a, .str b => if a.length + b.length ≤ sizeLine then some (mt (.str (a ++ b))) else none
  | .lst a, .lst b => if a.length + b.length ≤ sizeLine then some (.bx (.ls (a ++ b))) else none
  | .tup a, .tup b => if a.length + b.length ≤ sizeLine then some (mt (.tup (a ++ b))) else none
  | _, _ => none
def pSub : T → T → Option M
  | .int a, .int b => ri (a - b)
  | _, _ => none
def smallI (a : Int) : Bool := decide (-(2 ^ 64) < a ∧ a < 2 ^ 64)
def midI (a : Int) : Bool := decide (a.natAbs < 2 ^ 4096)
def pMul : T → T → Option M
  | .int a, .int b => if (smallI a = true ∨ smallI b = true) ∨ (midI a = true ∧ midI b = true) then ri (a * b) else none
  | .lst a, .int k => if -(2 ^ 63) ≤ k ∧ k < 2 ^ 63 ∧ a.length * k.toNat ≤ sizeLine then some (.bx (.ls (List.replicate k.toNat a).flatten)) else none
  | _, _ => none
def pFdiv : T → T → Option M
  | .int a, .int b => if 0 < b ∧ midI b = true then ri (a / b) else none
  | _, _ => none
def pMod : T → T → Option M
  | .int a, .int b => if 0 < b then ri (a % b) else none
  | _, _ => none
def pPow : T → T → Option M
  | .int a, .int b => if 0 ≤ b ∧ b ≤ 1000000 ∧ a.natAbs < 2 ^ 64 then ri (a ^ b.toNat) else none
  | _, _ => none
def pNeg : T → Option M
  | .int a => ri (-a)
  | _ => none
/-- is it a flat thing that == tells apart at once? -/
def T.flat : T → Bool
  | .non => true | .bl _ => true | .int _ => true | .str _ => true
  | _ => false
def tEq : T → T → Option Bool
  | .int a, .int b => some (a == b)
  | .str a, .str b => some (a == b)
  | .non, .non => some true
  | .bl a, .bl b => some (a == b)
  | a, b => match a.toD, b.toD with
    | some d, some e => if SeqAt.shaped d = true ∧ SeqAt.shaped e = true then some (PyData.eqv d e) else none
    | _, _ => none
def pEq (a b : T) : Option M := (tEq a b).map fun c => mt (.bl c)
def pNe (a b : T) : Option M := (tEq a b).map fun c => mt (.bl (!c))
def pCmp (f : Int → Int → Bool) : T → T → Option M
  | .int a, .int b => rb (f a b)
  | _, _ => none
def T.isN : T → Bool
  | .non => true
  | _ => false
def pIdx : T → T → Option M
  | .lst xs, .int i => (atI xs i).map mt
  | .tup xs, .int i => (atI xs i).map mt
  | .rd ns, .int i => (atI ns i).map fun n => mt (.int n)
  | _, _ => none
def intsT : List T → Option (List Int)
  | [] => some []
  | .int i :: r => (intsT r).map (i :: ·)
  | _ => none
def bls : List T → Option (List Bool)
  | [] => some []
  | .bl i :: r => (bls r).map (i :: ·)
  | _ => none
def pLen : T → Option M
  | .lst xs => ri xs.length
  | .tup xs => ri xs.length
  | .rd xs => ri xs.length
  | .str x => if x.length ≤ sizeLine then ri x.length else none
  | _ => none
def pAbs : T → Option M
  | .int i => ri (if i < 0 then -i else i)
  | _ => none
def pInt : T → Option M
  | .int i => ri i
  | .bl b => ri (if b then 1 else 0)
  | _ => none
def pSum : T → Option M
  | .lst xs => (intsT xs).bind fun ns => ri ns.sum
  | _ => none
def maxL : List Int → Int
  | [] => 0
  | [a] => a
  | a :: r => if a < maxL r then maxL r else a
def minL : List Int → Int
  | [] => 0
  | [a] => a
  | a :: r => if minL r < a then minL r else a
def pMax1 : T → Option M
  | .lst xs => (intsT xs).bind fun ns => if 0 < ns.length then ri (maxL ns) else none
  | _ => none
def lessT (x y : T) : Bool := match x.toD, y.toD with
  | some d, some e => PySem.W.dataLt d e
  | _, _ => false
def minT (x : T) (xs : List T) : T := xs.foldl (fun a y => if lessT y a = true then y else a) x
def noN : PyData → Bool
  | .none => false
  | _ => true
def alikeL (ds : List PyData) : Bool := (ds.all fun d => ds.all fun e => PySem.W.alike d e) && ds.all noN
def minD1 : List T → Option M
  | [] => none
  | x :: r => match T.toDs (x :: r) with
    | some ds => if alikeL ds = true ∧ PyData.depthAll ds ≤ 63 then some (mt (minT x r)) else none
    | none => none
def pMin1 : T → Option M
  | .lst xs => match intsT xs with
    | some ns => if 0 < ns.length then ri (minL ns) else none
    | none => minD1 xs
  | _ => none
def pMax2 : T → T → Option M
  | .int a, .int b => ri (if b > a then b else a)
  | _, _ => none
def pMax3 : T → T → T → Option M
  | .int a, .int b, .int c => ri (if c > (if b > a then b else a) then c else (if b > a then b else a))
  | _, _, _ => none
def pMin2 : T → T → Option M
  | .int a, .int b => ri (if b < a then b else a)
  | _, _ => none
def insI (a : Int) : List Int → List Int
  | [] => [a]
  | b :: r => if a ≤ b then a :: b :: r else b :: insI a r
def sortI : List Int → List Int
  | [] => []
  | a :: r => insI a (sortI r)
def pSorted : T → Option M
  | .lst xs => (intsT xs).bind fun ns => if ns.length < 64 then some (.bx (.ls ((sortI ns).map .int))) else none
  | _ => none
/-- without doubles, each where it first stood -/
def addI (ks : List Int) (k : Int) : List Int := if k ∈ ks then ks else ks ++ [k]
def onceI (ks : List Int) : List Int := ks.foldl addI []
/-- the keys of a dict of ints, in order -/
def sdM : M → Option M
  | .bx (.ls ts) => (intsT ts).bind fun ns => if ns.length < 64 then some (.bx (.ls ((sortI (onceI ns)).map .int))) else none
  | _ => none
def pAll : T → Option M
  | .lst xs => (bls xs).bind fun bs => rb (bs.all id)
  | _ => none
def pAny : T → Option M
  | .lst xs => (bls xs).bind fun bs => rb (bs.any id)
  | _ => none
/-- a text's signs, each a text -/
def chars (x : Str) : List T := x.cps.toList.map fun c => .str ⟨#[c]⟩
def pList : T → Option M
  | .lst xs => some (.bx (.ls xs))
  | .tup xs => some (.bx (.ls xs))
  | .rd ns => some (.bx (.ls (ns.map .int)))
  | .str x => if x.cps.size ≤ sizeLine then some (.bx (.ls (chars x))) else none
  | _ => none
def pTuple : T → Option M
  | .lst xs => some (mt (.tup xs))
  | .tup xs => some (mt (.tup xs))
  | _ => none
def eqF : T → T → Bool
  | .non, .non => true
  | .bl a, .bl b => a == b
  | .bl a, .int b => (if a then 1 else 0) == b
  | .int a, .bl b => a == (if b then 1 else 0)
  | .int a, .int b => a == b
  | .str a, .str b => a == b
  | _, _ => false
/-- x in y, a list or tuple of flat things -/
def pInL (x : T) (ys : List T) : Option Bool := if x.flat = true ∧ ys.all T.flat = true then some (ys.any fun y => eqF y x) else none
def pIn : T → T → Option Bool
  | x, .lst ys => pInL x ys
  | x, .tup ys => pInL x ys
  | _, _ => none
def pIsB : T → T → Option Bool
  | .bl a, .bl b => some (decide (a = b))
  | _, _ => none
def pRev : T → Option M
  | .lst xs => some (.bx (.ls xs.reverse))
  | .tup xs => some (mt (.tup xs.reverse))
  | _ => none
def primSem : Prim → List T → Option M
  | .add, [a, b] => pAdd a b
  | .sub, [a, b] => pSub a b
  | .mul, [a, b] => pMul a b
  | .fdiv, [a, b] => pFdiv a b
  | .mod, [a, b] => pMod a b
  | .pow, [a, b] => pPow a b
  | .neg, [a] => pNeg a
  | .eq, [a, b] => pEq a b
  | .ne, [a, b] => pNe a b
  | .lt, [a, b] => pCmp (fun i j => decide (i < j)) a b
  | .le, [a, b] => pCmp (fun i j => decide (i ≤ j)) a b
  | .gt, [a, b] => pCmp (fun i j => decide (j < i)) a b
  | .ge, [a, b] => pCmp (fun i j => decide (j ≤ i)) a b
  | .isN, [a] => rb a.isN
  | .notN, [a] => rb (!a.isN)
  | .idx, [a, b] => pIdx a b
  | .isb, [a, b] => (pIsB a b).map fun c => mt (.bl c)
  | .notb, [a, b] => (pIsB a b).map fun c => mt (.bl (!c))
  | .inn, [a, b] => (pIn a b).map fun c => mt (.bl c)
  | .nin, [a, b] => (pIn a b).map fun c => mt (.bl (!c))
  | .rev, [a] => pRev a
  | .max3, [a, b, c] => pMax3 a b c
  | .len, [a] => pLen a
  | .abs, [a] => pAbs a
  | .int, [a] => pInt a
  | .sum, [a] => pSum a
  | .max1, [a] => pMax1 a
  | .min1, [a] => pMin1 a
  | .max2, [a, b] => pMax2 a b
  | .min2, [a, b] => pMin2 a b
  | .sorted, [a] => pSorted a
  | .all, [a] => pAll a
  | .any, [a] => pAny a
  | .list, [a] => pList a
  | .tuple, [a] => pTuple a
  | _, _ => none
def cutT (xs : List α) (lo hi : Option Int) : List α := (xs.drop (HT.sIx xs.length 0 lo)).take (HT.sIx xs.length xs.length hi - HT.sIx xs.length 0 lo)
def pSlice (x : T) (lo hi : Option Int) : Option M :=
  match x with
  | .lst xs => some (.bx (.ls (cutT xs lo hi)))
  | .rd ns => some (.bx (.ls ((cutT ns lo hi).map .int)))
  | .tup xs => some (mt (.tup (cutT xs lo hi)))
  | _ => none
/-- a value's truth -/
def tru : T → Option Bool
  | .non => some false
  | .bl b => some b
  | .int i => some (i != 0)
  | .str x => if x.length ≤ sizeLine then some ((x.length : Int) != 0) else none
  | .tup xs => some (!xs.isEmpty)
  | .lst xs => some (!xs.isEmpty)
  | .rd xs => some (!xs.isEmpty)
  | .dK xs => some (!xs.isEmpty)
  | _ => none
def tyOf : T → Option Ty
  | .non => some .none
  | .bl _ => some .bool
  | .int _ => some .int
  | .str _ => some .str
  | .tup _ => some .tuple
  | .lst _ => some .list
  | _ => none
/-- isinstance of one class: a bool is an int, too -/
def Ty.isA (t c : Ty) : Bool := t == c || (t == .bool && c == .int)
def pIsi (x : T) (cs : List Ty) : Option M := (tyOf x).bind fun t => rb (cs.any (t.isA ·))

/-! ### the language -/
mutual
inductive E where
  | k (t : T) | g (j : Str) | var (i : Nat)
  | op (p : Prim) (es : Es)
  | sl (x : E) (lo hi : Op)
  | tup (es : Es) | lst (es : Es)
  | ite (c : C) (a b : E)
  | and (a b : E) | or (a b : E) | not (a : E)
  | chain (p q : Prim) (a b c : E)
  | isi (a : E) (cs : List Ty) (many : Bool)
  | call (j : Str) (es : Es)
  | callk (j : Str) (es : Es) (perm : List Nat)
  | callp (j : Str) (es : Es)
  | comp (own : List Nat) (tg : Tg) (it : I) (cs : Cs) (elt : E)
  | comp2 (own own2 : List Nat) (tg : Tg) (it : I) (cs : Cs) (tg2 : Tg) (it2 : I) (cs2 : Cs) (elt : E)
  | pop (i : Nat) (a : E)
  | pop0 (i : Nat)
  | rgl (tup : Bool) (a : E)
  | rgl2 (tup : Bool) (a b : E)
  | fld (i : Nat) (cn : Str) (f : Nat)
  | fidx (i : Nat) (cn : Str) (f : Nat) (e : E)
  | flen (i : Nat) (cn : Str) (f : Nat)
  | new (j cn : Str) (n : Nat) (es : Es)
  | meth (j cn : Str) (es : Es)
  | methp (j cn : Str) (es : Es)
  | bor (e : E)
  | call0 (j : Str)
  | sd (e : E)
inductive Es where
  | nil | cons (e : E) (es : Es)
inductive Op where
  | no | some (e : E)
inductive C where
  | val (e : E) | not (c : C) | and (a b : C) | or (a b : C)
inductive Cs where
  | nil | cons (c : C) (cs : Cs)
inductive I where
  | seq (e : E) | range1 (a : E) | range2 (a b : E) | enum (a : E) | zip (a b : E) | range3 (a b c : E) | zip3 (a b c : E)
end
structure Fn where
  mu : List Bool
  sem : List M → Option (M × Slots)
/-- a call of a def that changes none of its arguments -/
def valOf (fns : Str → Option Fn) (f : Str) (ts : List T) : Option M := obd (fns f) fun F => if F.mu = List.replicate ts.length false then (F.sem (ts.map mt)).map (·.1) else none
structure Gc where
  consts : Str → Option T
  fns : Str → Option Fn
  pin : List Nat

def Es.isNil : Es → Bool
  | .nil => true
  | _ => false
def E.slot? : E → Option Nat
  | .var i => some i
  | _ => none
mutual
/-- read without a change of what stands in the slots -/
def E.vs : E → Bool
  | .var _ => true
  | .k _ => true
  | .g _ => true
  | .op _ es => es.vs
  | .sl x lo hi => x.vs && lo.vs && hi.vs
  | .fld _ _ _ => true
  | .fidx _ _ _ e => e.vs
  | .flen _ _ _ => true
  | .lst es => es.isNil
  | _ => false
def Es.vs : Es → Bool
  | .nil => true
  | .cons e es => e.vs && es.vs
def Op.vs : Op → Bool
  | .no => true
  | .some e => e.vs
end
def Tg.store (pin : List Nat) : Tg → T → Slots → Option Slots
  | .nm i, t, ρ => if i < ρ.length ∧ i ∉ pin then some (ρ.set i (some (mt t))) else none
  | .t2 a b, .tup [x, y], ρ => obd (a.store pin x ρ) fun ρ => b.store pin y ρ
  | .t3 a b c, .tup [x, y, z], ρ => obd (a.store pin x ρ) fun ρ => obd (b.store pin y ρ) fun ρ => c.store pin z ρ
  | .t4 a b c d, .tup [x, y, z, w], ρ => obd (a.store pin x ρ) fun ρ => obd (b.store pin y ρ) fun ρ => obd (c.store pin z ρ) fun ρ => d.store pin w ρ
  | .t2 a b, .lst [x, y], ρ => obd (a.store pin x ρ) fun ρ => b.store pin y ρ
  | .t3 a b c, .lst [x, y, z], ρ => obd (a.store pin x ρ) fun ρ => obd (b.store pin y ρ) fun ρ => c.store pin z ρ
  | .t4 a b c d, .lst [x, y, z, w], ρ => obd (a.store pin x ρ) fun ρ => obd (b.store pin y ρ) fun ρ => obd (c.store pin z ρ) fun ρ => d.store pin w ρ
  | _, _, _ => none
theorem store2 {pin : List Nat} {a b : Tg} {t : T} {ρ ρ' : Slots} (h : (Tg.t2 a b).store pin t ρ = some ρ') : ∃ x y, (t = .tup [x, y] ∨ t = .lst [x, y]) ∧ (obd (a.store pin x ρ) fun ρ => b.store pin y ρ) = some ρ' := by
  unfold Tg.store at h
  split at h <;> first
    | (cases h; done)
    | (cases ‹Tg.t2 a b = _›; done)
    | skip
  all_goals (cases ‹Tg.t2 a b = _›)
  · exact ⟨_, _, .inl rfl, h⟩
  · exact ⟨_, _, .inr rfl, h⟩
theorem store3 {pin : List Nat} {a b c : Tg} {t : T} {ρ ρ' : Slots} (h : (Tg.t3 a b c).store pin t ρ = some ρ') : ∃ x y z, (t = .tup [x, y, z] ∨ t = .lst [x, y, z]) ∧ (obd (a.store pin x ρ) fun ρ => obd (b.store pin y ρ) fun ρ => c.store pin z ρ) = some ρ' := by
  unfold Tg.store at h
  split at h <;> first
    | (cases h; done)
    | (cases ‹Tg.t3 a b c = _›; done)
    | skip
  all_goals (cases ‹Tg.t3 a b c = _›)
  · exact ⟨_, _, _, .inl rfl, h⟩
  · exact ⟨_, _, _, .inr rfl, h⟩
theorem store4 {pin : List Nat} {a b c d : Tg} {t : T} {ρ ρ' : Slots} (h : (Tg.t4 a b c d).store pin t ρ = some ρ') : ∃ x y z w, (t = .tup [x, y, z, w] ∨ t = .lst [x, y, z, w]) ∧ (obd (a.store pin x ρ) fun ρ => obd (b.store pin y ρ) fun ρ => obd (c.store pin z ρ) fun ρ => d.store pin w ρ) = some ρ' := by
  unfold Tg.store at h
  split at h <;> first
    | (cases h; done)
    | (cases ‹Tg.t4 a b c d = _›; done)
    | skip
  all_goals (cases ‹Tg.t4 a b c d = _›)
  · exact ⟨_, _, _, _, .inl rfl, h⟩
  · exact ⟨_, _, _, _, .inr rfl, h⟩
def wipeS (own : List Nat) (ρ : Slots) : Slots := own.foldl (fun ρ i => ρ.set i none) ρ
/-- the slots own as they were in ρ, the others as they are -/
def backS (own : List Nat) (ρ ρ' : Slots) : Slots := own.foldl (fun r i => r.set i ((ρ[i]?).getD none)) ρ'
/-- a comprehension's turns; a turn gives an item or none -/
def compL (own : List Nat) (f : T → Slots → Option (Option T × Slots)) : List T → Slots → Option (List T × Slots)
  | [], ρ => some ([], ρ)
  | x :: xs, ρ => bnd (f x (wipeS own ρ)) fun y ρ => bnd (compL own f xs ρ) fun ys ρ => some (match y with | some y => y :: ys | none => ys, ρ)
/-- the same where a turn gives several items -/
def compLL (own : List Nat) (f : T → Slots → Option (List T × Slots)) : List T → Slots → Option (List T × Slots)
  | [], ρ => some ([], ρ)
  | x :: xs, ρ => bnd (f x (wipeS own ρ)) fun y ρ => bnd (compLL own f xs ρ) fun ys ρ => some (y ++ ys, ρ)
/-- the values that are walked -/
def seqOf : T → Option (List T)
  | .lst xs => some xs
  | .tup xs => some xs
  | .rd ns => some (ns.map .int)
  | .str x => if x.cps.size ≤ sizeLine then some (chars x) else none
  | _ => none
def T.isS : T → Bool
  | .str _ => true
  | _ => false
def rangeT (lo hi : Int) : Option (List T) :=
  if -(2 ^ 62) ≤ lo ∧ lo < 2 ^ 62 ∧ -(2 ^ 62) ≤ hi ∧ hi < 2 ^ 62 ∧ (hi - lo).toNat < sizeLine then some ((List.range (hi - lo).toNat).map fun i => .int (lo + (i : Nat))) else none
/-- down to behind hi -/
def rangeD (lo hi k : Int) : Option (List T) :=
  if k = -1 ∧ -(2 ^ 62) ≤ lo ∧ lo < 2 ^ 62 ∧ -(2 ^ 62) ≤ hi ∧ hi < 2 ^ 62 ∧ (lo - hi).toNat < sizeLine then some ((List.range (lo - hi).toNat).map fun i => .int (lo + (i : Nat) * (-1))) else none
def enumT (i : Nat) : List T → List T
  | [] => []
  | x :: xs => .tup [.int (i : Nat), x] :: enumT (i + 1) xs
def zipT : List T → List T → List T
  | x :: xs, y :: ys => .tup [x, y] :: zipT xs ys
  | _, _ => []
def zipT3 : List T → List T → List T → List T
  | x :: xs, y :: ys, z :: zs => .tup [x, y, z] :: zipT3 xs ys zs
  | _, _, _ => []
def zipOf3 (s t u : T) : Option (List T) := if ((s.isS || t.isS) || u.isS) = true then none else obd (seqOf s) fun xs => obd (seqOf t) fun ys => obd (seqOf u) fun zs => some (zipT3 xs ys zs)
def zipOf (s t : T) : Option (List T) := if (s.isS || t.isS) = true then none else obd (seqOf s) fun xs => obd (seqOf t) fun ys => some (zipT xs ys)
def enumOf (t : T) : Option (List T) := if t.isS = true then none else obd (seqOf t) fun xs => some (enumT 0 xs)
def backM (es : Es) : List Bool → Slots → Slots → Slots
  | [], _, ρ => ρ
  | _ :: _, [], ρ => ρ
  | c :: cs, m :: ms, ρ => match es with
    | .nil => ρ
    | .cons e es => backM es cs ms (match c, e.slot? with | true, some i => ρ.set i m | _, _ => ρ)
def lsOf (ρ : Slots) (i : Nat) : Option (List T) := match ρ[i]? with
  | some (some (.bx (.ls xs))) => some xs
  | _ => none
def isLs (ρ : Slots) (i : Nat) : Bool := (lsOf ρ i).isSome
def intOf : T → Option Int
  | .int i => some i
  | _ => none
/-- a value that is only read: a slot's content as it stands -/
def v1 (sl : Option Nat) (r : Slots → Option (M × Slots)) (ρ : Slots) : Option (T × Slots) :=
  match sl with
  | some i => match ρ[i]? with
    | some (some (.bx x)) => some (x.frz, ρ)
    | _ => none
  | none => bnd (r ρ) fun m ρ => obd m.frz fun t => some (t, ρ)
/-- a value that is kept -/
def f1 (r : Option (M × Slots)) : Option (T × Slots) := bnd r fun m ρ => obd m.frz fun t => some (t, ρ)
def ownedAt (sl : Option Nat) (ρ : Slots) : Bool := match sl with
  | none => false
  | some i => match ρ[i]? with
    | some (some (.bx (.fz _))) => false
    | _ => true
def sqM (tup : Bool) (xs : List T) : M := if tup = true then mt (.tup xs) else .bx (.ls xs)
/-! objects -/
def clsC (G : Gc) (cn : Str) : Option ClsI := match G.consts cn with
  | some (.cl ci) => some ci
  | _ => none
def fldAt (fs : List (Option B)) (f : Nat) : Option B := (fs[f]?).getD none
/-- a field, as it stands -/
def fldV (ρ : Slots) (i : Nat) (ci : ClsI) (f : Nat) : Option T := match ρ[i]? with
  | some (some (.ob c fs)) => if c = ci then (fldAt fs f).map B.frz else none
  | some (some (.bx (.fz (.ob c ts)))) => if c = ci then ts[f]? else none
  | _ => none
/-- a field that stays -/
def fldK (ρ : Slots) (i : Nat) (ci : ClsI) (f : Nat) : Option T := match ρ[i]? with
  | some (some (.ob c fs)) => if c = ci then (match fldAt fs f with
    | some (.fz t) => some t
    | _ => none) else none
  | some (some (.bx (.fz (.ob c ts)))) => if c = ci then ts[f]? else none
  | _ => none
def obOf (ρ : Slots) (i : Nat) (ci : ClsI) : Option (List (Option B)) := match ρ[i]? with
  | some (some (.ob c fs)) => if c = ci then some fs else none
  | _ => none
def isObM (ci : ClsI) : M → Bool
  | .ob c _ => decide (c = ci)
  | .bx (.fz (.ob c _)) => decide (c = ci)
  | _ => false
def headOb (ci : ClsI) : List M → Bool
  | m :: _ => isObM ci m
  | [] => false
def Es.hslot : Es → Option Nat
  | .cons e _ => e.slot?
  | .nil => none
def preOb (ci : ClsI) (sl : Option Nat) (ρ : Slots) : Bool := match sl with
  | some i => (match ρ[i]? with
    | some (some m) => isObM ci m
    | _ => false)
  | none => true
/-- what a constructor has made -/
def madeOf (m : M) (ρ' : Slots) : Option M := match m, ρ' with
  | .bx (.fz .non), some m' :: _ => some m'
  | _, _ => none
/-- all slots, never changed any more -/
def frzO : Option M → Option M
  | some m => m.frz.map mt
  | none => none
def frzA (ρ : Slots) : Slots := ρ.map frzO
def M.flat : M → Bool
  | .bx (.fz t) => t.flat
  | _ => false
mutual
def ev (G : Gc) : E → Slots → Option (M × Slots)
  | .k t, ρ => some (mt t, ρ)
  | .g j, ρ => obd (G.consts j) fun t => some (mt t, ρ)
  | .var i, ρ => match ρ[i]? with
    | some (some (.bx (.fz t))) => some (mt t, ρ)
    | some (some (.bx x)) => some (mt x.frz, ρ.set i (some (mt x.frz)))
    | _ => none
  | .op p es, ρ => bnd (evs G es ρ) fun ts ρ => obd (primSem p ts) fun m => some (m, ρ)
  | .sl x lo hi, ρ => if (lo.vs && hi.vs || !ownedAt x.slot? ρ) = true then bnd (v1 x.slot? (ev G x) ρ) fun t ρ => bnd (evO G lo ρ) fun lo ρ => bnd (evO G hi ρ) fun hi ρ => obd (pSlice t lo hi) fun m => some (m, ρ) else none
  | .tup es, ρ => bnd (evf G es ρ) fun ts ρ => if ts.length ≤ sizeLine then some (mt (.tup ts), ρ) else none
  | .lst es, ρ => bnd (evf G es ρ) fun ts ρ => if ts.length ≤ sizeLine then some (.bx (.ls ts), ρ) else none
  | .ite c a b, ρ => bnd (evC G c ρ) fun k ρ => if k = true then ev G a ρ else ev G b ρ
  | .and a b, ρ => bnd (ev G a ρ) fun m ρ => obd m.frz fun t => obd (tru t) fun k => if k = true then ev G b ρ else some (m, ρ)
  | .or a b, ρ => bnd (ev G a ρ) fun m ρ => obd m.frz fun t => obd (tru t) fun k => if k = true then some (m, ρ) else ev G b ρ
  | .not a, ρ => bnd (v1 a.slot? (ev G a) ρ) fun t ρ => obd (tru t) fun k => some (mt (.bl (!k)), ρ)
  | .chain p q a b c, ρ => bnd (f1 (ev G a ρ)) fun x ρ => bnd (f1 (ev G b ρ)) fun y ρ => obd (primSem p [x, y]) fun r => match r with
    | .bx (.fz (.bl true)) => bnd (f1 (ev G c ρ)) fun z ρ => obd (primSem q [y, z]) fun r => some (r, ρ)
    | .bx (.fz (.bl false)) => some (mt (.bl false), ρ)
    | _ => none
  | .isi a cs _, ρ => bnd (v1 a.slot? (ev G a) ρ) fun t ρ => obd (pIsi t cs) fun m => some (m, ρ)
  | .call j es, ρ => obd (G.fns j) fun F => bnd (evm G F.mu es ρ) fun ms ρ => bnd (F.sem ms) fun m ρ' => some (m, backM es F.mu ρ' ρ)
  | .callk j es perm, ρ => bnd (evf G es ρ) fun ts ρ => obd (valOf G.fns j (perm.map fun i => (ts[i]?).getD .non)) fun m => some (m, ρ)
  | .callp j es, ρ => bnd (evf G es ρ) fun ts ρ => obd (valOf G.fns j ts) fun m => some (m, ρ)
  | .comp own tg it cs elt, ρ => bnd (evI G it ρ) fun xs ρ0 => bnd (compL own (fun x ρ => obd (tg.store G.pin x ρ) fun ρ => bnd (evCs G cs ρ) fun k ρ =>
      if k = true then bnd (f1 (ev G elt ρ)) fun t ρ => some (some t, ρ) else some (none, ρ)) xs ρ0) fun ys ρ1 => some (.bx (.ls ys), backS own ρ0 ρ1)
  | .comp2 own own2 tg it cs tg2 it2 cs2 elt, ρ => bnd (evI G it ρ) fun xs ρ0 => bnd (compLL own (fun x ρ => obd (tg.store G.pin x ρ) fun ρ => bnd (evCs G cs ρ) fun k ρ =>
      if k = true then bnd (evI G it2 ρ) fun zs ρ => compL own2 (fun z ρ => obd (tg2.store G.pin z ρ) fun ρ => bnd (evCs G cs2 ρ) fun k ρ =>
        if k = true then bnd (f1 (ev G elt ρ)) fun t ρ => some (some t, ρ) else some (none, ρ)) zs ρ else some ([], ρ)) xs ρ0) fun ys ρ1 => if ys.length ≤ sizeLine then some (.bx (.ls ys), backS own ρ0 ρ1) else none
  | .pop i a, ρ => if isLs ρ i = true then bnd (f1 (ev G a ρ)) fun k ρ => obd (lsOf ρ i) fun xs => obd (intOf k) fun k =>
      if -(2 ^ 63) ≤ k ∧ k < 2 ^ 63 then obd (seqIndex? k xs.length) fun j => obd (xs[j]?) fun y => some (mt y, ρ.set i (some (.bx (.ls (xs.eraseIdx j))))) else none else none
  | .pop0 i, ρ => obd (lsOf ρ i) fun xs => obd (xs[xs.length - 1]?) fun y => some (mt y, ρ.set i (some (.bx (.ls xs.dropLast))))
  | .rgl tup a, ρ => bnd (f1 (ev G a ρ)) fun t ρ => obd (intOf t) fun n => obd (rangeT 0 n) fun xs => some (sqM tup xs, ρ)
  | .rgl2 tup a b, ρ => bnd (f1 (ev G a ρ)) fun s ρ => bnd (f1 (ev G b ρ)) fun t ρ => obd (intOf s) fun m => obd (intOf t) fun n => obd (rangeT m n) fun xs => some (sqM tup xs, ρ)
  | .fld i cn f, ρ => obd (clsC G cn) fun ci => obd (fldK ρ i ci f) fun t => some (mt t, ρ)
  | .fidx i cn f e, ρ => if e.vs = true then obd (clsC G cn) fun ci => obd (fldV ρ i ci f) fun t => bnd (v1 e.slot? (ev G e) ρ) fun k ρ => obd (pIdx t k) fun m => some (m, ρ) else none
  | .flen i cn f, ρ => obd (clsC G cn) fun ci => obd (fldV ρ i ci f) fun t => obd (pLen t) fun m => some (m, ρ)
  | .new j cn n es, ρ => bnd (evf G es ρ) fun ts ρ => obd (clsC G cn) fun ci => obd (G.fns j) fun F => if F.mu = true :: List.replicate ts.length false then bnd (F.sem (.ob ci (List.replicate n none) :: ts.map mt)) fun m ρ' => obd (madeOf m ρ') fun m => some (m, ρ) else none
  | .meth j cn es, ρ => obd (clsC G cn) fun ci => if preOb ci es.hslot ρ = true then obd (G.fns j) fun F => bnd (evm G F.mu es ρ) fun ms ρ => if headOb ci ms = true then bnd (F.sem ms) fun m ρ' => some (m, backM es F.mu ρ' ρ) else none else none
  | .methp j cn es, ρ => obd (clsC G cn) fun ci => bnd (evf G es ρ) fun ts ρ => if headOb ci (ts.map mt) = true then obd (valOf G.fns j ts) fun m => some (m, ρ) else none
  | .call0 j, ρ => obd (valOf G.fns j []) fun m => some (m, ρ)
  | .sd e, ρ => bnd (ev G e ρ) fun m ρ => obd (sdM m) fun m => some (m, ρ)
  | .bor e, ρ => bnd (ev G e (frzA ρ)) fun m _ => if m.flat = true then some (m, ρ) else none
/-- values that are only read, from the left -/
def evs (G : Gc) : Es → Slots → Option (List T × Slots)
  | .nil, ρ => some ([], ρ)
  | .cons e es, ρ => match e.slot? with
    | some i => match ρ[i]? with
      | some (some (.bx (.fz t))) => bnd (evs G es ρ) fun ts ρ => some (t :: ts, ρ)
      | some (some (.bx x)) => if es.vs = true then bnd (evs G es ρ) fun ts ρ => some (x.frz :: ts, ρ) else none
      | _ => none
    | none => bnd (ev G e ρ) fun m ρ => obd m.frz fun t => bnd (evs G es ρ) fun ts ρ => some (t :: ts, ρ)
/-- values that are kept -/
def evf (G : Gc) : Es → Slots → Option (List T × Slots)
  | .nil, ρ => some ([], ρ)
  | .cons e es, ρ => bnd (ev G e ρ) fun m ρ => obd m.frz fun t => bnd (evf G es ρ) fun ts ρ => some (t :: ts, ρ)
/-- a call's arguments: where c, the slot's content is lent -/
def evm (G : Gc) : List Bool → Es → Slots → Option (List M × Slots)
  | [], .nil, ρ => some ([], ρ)
  | c :: cs, .cons e es, ρ => match c with
    | false => bnd (ev G e ρ) fun m ρ => obd m.frz fun t => bnd (evm G cs es ρ) fun ms ρ => some (mt t :: ms, ρ)
    | true => match e.slot? with
      | some i => match ρ[i]? with
        | some (some _) => bnd (evm G cs es ρ) fun ms ρ => (match ρ[i]? with
          | some (some m) => some (m :: ms, ρ.set i none)
          | _ => none)
        | _ => none
      | none => bnd (ev G e ρ) fun m ρ => bnd (evm G cs es ρ) fun ms ρ => some (m :: ms, ρ)
  | _, _, _ => none
def evO (G : Gc) : Op → Slots → Option (Option Int × Slots)
  | .no, ρ => some (none, ρ)
  | .some e, ρ => bnd (v1 e.slot? (ev G e) ρ) fun t ρ => obd (intOf t) fun i => some (some i, ρ)
def evC (G : Gc) : C → Slots → Option (Bool × Slots)
  | .val e, ρ => bnd (v1 e.slot? (ev G e) ρ) fun t ρ => obd (tru t) fun k => some (k, ρ)
  | .not c, ρ => bnd (evC G c ρ) fun k ρ => some (!k, ρ)
  | .and a b, ρ => bnd (evC G a ρ) fun k ρ => if k = true then evC G b ρ else some (false, ρ)
  | .or a b, ρ => bnd (evC G a ρ) fun k ρ => if k = true then some (true, ρ) else evC G b ρ
def evCs (G : Gc) : Cs → Slots → Option (Bool × Slots)
  | .nil, ρ => some (true, ρ)
  | .cons c cs, ρ => bnd (evC G c ρ) fun k ρ => if k = true then evCs G cs ρ else some (false, ρ)
def evI (G : Gc) : I → Slots → Option (List T × Slots)
  | .seq e, ρ => bnd (f1 (ev G e ρ)) fun t ρ => obd (seqOf t) fun xs => some (xs, ρ)
  | .range1 a, ρ => bnd (f1 (ev G a ρ)) fun t ρ => obd (intOf t) fun n => obd (rangeT 0 n) fun xs => some (xs, ρ)
  | .range2 a b, ρ => bnd (f1 (ev G a ρ)) fun s ρ => bnd (f1 (ev G b ρ)) fun t ρ => obd (intOf s) fun m => obd (intOf t) fun n => obd (rangeT m n) fun xs => some (xs, ρ)
  | .enum e, ρ => bnd (f1 (ev G e ρ)) fun t ρ => obd (enumOf t) fun xs => some (xs, ρ)
  | .zip a b, ρ => bnd (f1 (ev G a ρ)) fun s ρ => bnd (f1 (ev G b ρ)) fun t ρ => obd (zipOf s t) fun xs => some (xs, ρ)
  | .range3 a b c, ρ => bnd (f1 (ev G a ρ)) fun s ρ => bnd (f1 (ev G b ρ)) fun t ρ => bnd (f1 (ev G c ρ)) fun u ρ => obd (intOf s) fun m => obd (intOf t) fun n => obd (intOf u) fun k => obd (rangeD m n k) fun xs => some (xs, ρ)
  | .zip3 a b c, ρ => bnd (f1 (ev G a ρ)) fun s ρ => bnd (f1 (ev G b ρ)) fun t ρ => bnd (f1 (ev G c ρ)) fun u ρ => obd (zipOf3 s t u) fun xs => some (xs, ρ)
end

theorem t_ev (G : Gc) (e : E) (ρ : Slots) : ev G (.not e) ρ = bnd (v1 e.slot? (ev G e) ρ) fun t ρ => obd (tru t) fun k => some (mt (.bl (!k)), ρ) := rfl
end Mk
/-! Mk: statements and their run. -/
namespace Mk
open PySem L2
inductive S where
  | skip | expr (e : E) | asg (tg : Tg) (e : E)
  | par (is : List Nat) (es : Es)
  | put (i : Nat) (k e : E)
  | app (i : Nat) (e : E)
  | ret (e : E) | retN | brk | cont | never
  | ifs (c : C) (a b : S)
  | for_ (tg : Tg) (it : I) (body : S)
  | while_ (n : Nat) (c : C) (body : S)
  | seq (a b : S)
  | fg (is : List Nat) (b : S)
  | fz (is : List Nat) (b : S)
  | fput (own : Bool) (i : Nat) (cn : Str) (f : Nat) (e : E)
  | fapp (i : Nat) (cn : Str) (f : Nat) (e : E)
  | pass
  | dec (i : Nat) (e : E)

def setM (pin : List Nat) (i : Nat) (m : M) (ρ : Slots) : Option Slots := if i < ρ.length ∧ i ∉ pin then some (ρ.set i (some m)) else none
inductive Out where
  | next | brk | cont | ret (m : M)
def forL (f : T → Slots → Option (Out × Slots)) : List T → Slots → Option (Out × Slots)
  | [], ρ => some (.next, ρ)
  | x :: xs, ρ => bnd (f x ρ) fun o ρ => match o with
    | .next => forL f xs ρ
    | .cont => forL f xs ρ
    | .brk => some (.next, ρ)
    | .ret m => some (.ret m, ρ)
def whileL (c : Slots → Option (Bool × Slots)) (f : Slots → Option (Out × Slots)) : Nat → Slots → Option (Out × Slots)
  | 0, _ => none
  | n + 1, ρ => bnd (c ρ) fun k ρ => if k = true then bnd (f ρ) fun o ρ => match o with
    | .next => whileL c f n ρ
    | .cont => whileL c f n ρ
    | .brk => some (.next, ρ)
    | .ret m => some (.ret m, ρ)
    else some (.next, ρ)
/-- several values at once, each its own -/
def evp (G : Gc) : Es → Slots → Option (List M × Slots)
  | .nil, ρ => some ([], ρ)
  | .cons e es, ρ => bnd (ev G e ρ) fun m ρ => bnd (evp G es ρ) fun ms ρ => some (m :: ms, ρ)
def setMs (pin : List Nat) : List Nat → List M → Slots → Option Slots
  | [], [], ρ => some ρ
  | i :: is, m :: ms, ρ => obd (setM pin i m ρ) fun ρ => setMs pin is ms ρ
  | _, _, _ => none
/-- the slots is, from now on never changed any more -/
def frzS : List Nat → Slots → Slots
  | [], ρ => ρ
  | i :: is, ρ => frzS is (match ρ[i]? with
    | some (some (.bx x)) => ρ.set i (some (mt x.frz))
    | some (some (.ob c fs)) => (match frzFs fs with
      | some ts => ρ.set i (some (mt (.ob c ts)))
      | none => ρ)
    | _ => ρ)
def bxOf : M → Option B
  | .bx x => some x
  | _ => none
def lsB : Option B → Option (List T)
  | some (.ls xs) => some xs
  | _ => none
def lsF (ρ : Slots) (i : Nat) (ci : ClsI) (f : Nat) : Option (List T) := obd (obOf ρ i ci) fun fs => lsB (fldAt fs f)
def intAt (ρ : Slots) (i : Nat) : Option Int := match ρ[i]? with
  | some (some (.bx (.fz (.int a)))) => some a
  | _ => none
def ex (G : Gc) : S → Slots → Option (Out × Slots)
  | .skip, ρ => some (.next, ρ)
  | .expr e, ρ => bnd (ev G e ρ) fun _ ρ => some (.next, ρ)
  | .asg (.nm i) e, ρ => bnd (ev G e ρ) fun m ρ => obd (setM G.pin i m ρ) fun ρ => some (.next, ρ)
  | .asg tg e, ρ => bnd (f1 (ev G e ρ)) fun t ρ => obd (tg.store G.pin t ρ) fun ρ => some (.next, ρ)
  | .par is es, ρ => bnd (evp G es ρ) fun ms ρ => obd (setMs G.pin is ms ρ) fun ρ => some (.next, ρ)
  | .put i k e, ρ => bnd (f1 (ev G e ρ)) fun t ρ => if isLs ρ i = true then bnd (f1 (ev G k ρ)) fun k ρ => obd (lsOf ρ i) fun xs => obd (intOf k) fun k =>
      obd (ixN xs.length k) fun j => some (.next, ρ.set i (some (.bx (.ls (xs.set j t))))) else none
  | .app i e, ρ => if isLs ρ i = true then bnd (f1 (ev G e ρ)) fun t ρ => obd (lsOf ρ i) fun xs => if xs.length < sizeLine then some (.next, ρ.set i (some (.bx (.ls (xs ++ [t]))))) else none else none
  | .ret e, ρ => match e.slot? with
    | some i => if i ∈ G.pin then bnd (ev G e ρ) fun m ρ => some (.ret m, ρ) else match ρ[i]? with
      | some (some m) => some (.ret m, ρ.set i none)
      | _ => none
    | none => bnd (ev G e ρ) fun m ρ => some (.ret m, ρ)
  | .retN, ρ => some (.ret (mt .non), ρ)
  | .brk, ρ => some (.brk, ρ)
  | .cont, ρ => some (.cont, ρ)
  | .never, _ => none
  | .ifs c a b, ρ => bnd (evC G c ρ) fun k ρ => if k = true then ex G a ρ else ex G b ρ
  | .for_ tg it body, ρ => bnd (evI G it ρ) fun xs ρ => forL (fun x ρ => obd (tg.store G.pin x ρ) fun ρ => ex G body ρ) xs ρ
  | .while_ n c body, ρ => whileL (evC G c) (ex G body) n ρ
  | .seq a b, ρ => bnd (ex G a ρ) fun o ρ => match o with
    | .next => ex G b ρ
    | o => some (o, ρ)
  | .fg is b, ρ => ex G b (wipeS is ρ)
  | .fz is b, ρ => ex G b (frzS is ρ)
  | .fput own i cn f e, ρ => obd (clsC G cn) fun ci => if own = true then bnd (ev G e ρ) fun m ρ => obd (bxOf m) fun x => obd (obOf ρ i ci) fun fs => if f < fs.length then some (.next, ρ.set i (some (.ob ci (fs.set f (some x))))) else none
      else bnd (f1 (ev G e ρ)) fun t ρ => obd (obOf ρ i ci) fun fs => if f < fs.length then some (.next, ρ.set i (some (.ob ci (fs.set f (some (.fz t)))))) else none
  | .fapp i cn f e, ρ => if e.vs = true then obd (clsC G cn) fun ci => if (lsF ρ i ci f).isSome = true then bnd (f1 (ev G e ρ)) fun t ρ => obd (obOf ρ i ci) fun fs => obd (lsB (fldAt fs f)) fun xs => if xs.length < sizeLine then some (.next, ρ.set i (some (.ob ci (fs.set f (some (.ls (xs ++ [t]))))))) else none else none else none
  | .pass, ρ => some (.next, ρ)
  | .dec i e, ρ => obd (intAt ρ i) fun a => bnd (f1 (ev G e ρ)) fun t ρ => obd (intOf t) fun b => obd (setM G.pin i (mt (.int (a - b))) ρ) fun ρ => some (.next, ρ)
theorem t_ex (G : Gc) (a b : S) (ρ : Slots) : ex G (.seq a b) ρ = bnd (ex G a ρ) fun o ρ => match o with
    | .next => ex G b ρ
    | o => some (o, ρ) := rfl
end Mk
/-! Mk: how a tree lies in the abstract heap; who owns what; a step of the heap. -/
namespace Mk
open PySem L2

abbrev AS := Addr → Prop

mutual
/-- the tree t lies at v, all of it in the part F of the heap that never changes any more -/
inductive RepT (K : PySem.W.Frag) (F : Hp) : T → V → Prop
  | non : RepT K F .non .non
  | bl (b : Bool) : RepT K F (.bl b) (.bl b)
  | int (i : Int) : RepT K F (.int i) (.int i)
  | str (x : Str) : RepT K F (.str x) (.str x)
  | tup {a : Addr} {vs : List V} {ts : List T} : SqT K F a vs → vs.length ≤ sizeLine → RepTs K F ts vs → RepT K F (.tup ts) (.ref a)
  | lst {a : Addr} {vs : List V} {ts : List T} : F a = some (.lst vs) → vs.length ≤ sizeLine → RepTs K F ts vs → RepT K F (.lst ts) (.ref a)
  | rd {a : Addr} {ns : List Int} : SqL K F a (ns.map V.int) → ns.length ≤ sizeLine → RepT K F (.rd ns) (.ref a)
  | dK {a : Addr} {vs : List (Key × V)} {ts : List (Key × T)} : F a = some (.dK vs) → vs.length ≤ sizeLine → RepK K F ts vs → RepT K F (.dK ts) (.ref a)
  | dT {a : Addr} {vs : List (List Key × V)} {ts : List (List Key × T)} : F a = some (.dT vs) → vs.length ≤ sizeLine → RepD K F ts vs → RepT K F (.dT ts) (.ref a)
  | ob {a dx : Addr} {vfs : List (Str × V)} {vs : List V} {ci : ClsI} {ts : List T} : F a = some (.ins ci.C dx vfs) → RepTs K F ts vs → ci.fs.map (fun f => vfs.lookup f) = vs.map some → (∀ p ∈ vfs, p.1 ∈ ci.fs) → RepT K F (.ob ci ts) (.ref a)
inductive RepTs (K : PySem.W.Frag) (F : Hp) : List T → List V → Prop
  | nil : RepTs K F [] []
  | cons {t : T} {v : V} {ts : List T} {vs : List V} : RepT K F t v → RepTs K F ts vs → RepTs K F (t :: ts) (v :: vs)
inductive RepK (K : PySem.W.Frag) (F : Hp) : List (Key × T) → List (Key × V) → Prop
  | nil : RepK K F [] []
  | cons {k : Key} {t : T} {v : V} {ts : List (Key × T)} {vs : List (Key × V)} : RepT K F t v → RepK K F ts vs → RepK K F ((k, t) :: ts) ((k, v) :: vs)
inductive RepD (K : PySem.W.Frag) (F : Hp) : List (List Key × T) → List (List Key × V) → Prop
  | nil : RepD K F [] []
  | cons {k : List Key} {t : T} {v : V} {ts : List (List Key × T)} {vs : List (List Key × V)} : RepT K F t v → RepD K F ts vs → RepD K F ((k, t) :: ts) ((k, v) :: vs)
end
theorem sqT_mono {K : PySem.W.Frag} {F F' : Hp} (s : Same F F') {a : Addr} {xs : List V} (h : SqT K F a xs) : SqT K F' a xs := by
  rcases h with h | h
  · rcases h with h | ⟨o, h⟩
    · exact .inl (.inl (s _ _ h))
    · exact .inl (.inr ⟨o, s _ _ h⟩)
  · exact .inr h
mutual
theorem RepT.mono {K : PySem.W.Frag} {F F' : Hp} (s : Same F F') : ∀ {t : T} {v : V}, RepT K F t v → RepT K F' t v
  | _, _, .non => .non
  | _, _, .bl b => .bl b
  | _, _, .int i => .int i
  | _, _, .str x => .str x
  | _, _, .tup h z r => .tup (sqT_mono s h) z (RepTs.mono s r)
  | _, _, .lst h z r => .lst (s _ _ h) z (RepTs.mono s r)
  | _, _, .rd h z => .rd (s.seq h) z
  | _, _, .dK h z r => .dK (s _ _ h) z (RepK.mono s r)
  | _, _, .dT h z r => .dT (s _ _ h) z (RepD.mono s r)
  | _, _, .ob h r l q => .ob (s _ _ h) (RepTs.mono s r) l q
theorem RepTs.mono {K : PySem.W.Frag} {F F' : Hp} (s : Same F F') : ∀ {ts : List T} {vs : List V}, RepTs K F ts vs → RepTs K F' ts vs
  | _, _, .nil => .nil
  | _, _, .cons a b => .cons (RepT.mono s a) (RepTs.mono s b)
theorem RepK.mono {K : PySem.W.Frag} {F F' : Hp} (s : Same F F') : ∀ {ts : List (Key × T)} {vs : List (Key × V)}, RepK K F ts vs → RepK K F' ts vs
  | _, _, .nil => .nil
  | _, _, .cons a b => .cons (RepT.mono s a) (RepK.mono s b)
theorem RepD.mono {K : PySem.W.Frag} {F F' : Hp} (s : Same F F') : ∀ {ts : List (List Key × T)} {vs : List (List Key × V)}, RepD K F ts vs → RepD K F' ts vs
  | _, _, .nil => .nil
  | _, _, .cons a b => .cons (RepT.mono s a) (RepD.mono s b)
end
section
variable {K : PySem.W.Frag} {F : Hp}
theorem RepTs.length : ∀ {ts : List T} {vs : List V}, RepTs K F ts vs → ts.length = vs.length
  | _, _, .nil => rfl
  | _, _, .cons _ r => congrArg (· + 1) r.length
theorem RepTs.get : ∀ {ts : List T} {vs : List V} {i : Nat} {t : T}, RepTs K F ts vs → ts[i]? = some t → ∃ v, vs[i]? = some v ∧ RepT K F t v
  | _, _, _, _, .nil, e => by simp at e
  | _, _, 0, _, .cons r _, e => by simp at e; subst e; exact ⟨_, rfl, r⟩
  | _, _, i + 1, _, .cons _ r, e => by simpa using r.get (i := i) (by simpa using e)
theorem RepTs.getV : ∀ {ts : List T} {vs : List V} {i : Nat} {v : V}, RepTs K F ts vs → vs[i]? = some v → ∃ t, ts[i]? = some t ∧ RepT K F t v
  | _, _, _, _, .nil, e => by simp at e
  | _, _, 0, _, .cons r _, e => by simp at e; subst e; exact ⟨_, rfl, r⟩
  | _, _, i + 1, _, .cons _ r, e => by simpa using r.getV (i := i) (by simpa using e)
theorem RepTs.append : ∀ {ts us : List T} {vs ws : List V}, RepTs K F ts vs → RepTs K F us ws → RepTs K F (ts ++ us) (vs ++ ws)
  | _, _, _, _, .nil, s => s
  | _, _, _, _, .cons r t, s => .cons r (t.append s)
theorem RepTs.take : ∀ {ts : List T} {vs : List V} (n : Nat), RepTs K F ts vs → RepTs K F (ts.take n) (vs.take n)
  | _, _, 0, _ => .nil
  | _, _, _ + 1, .nil => .nil
  | _, _, n + 1, .cons r t => .cons r (t.take n)
theorem RepTs.drop : ∀ {ts : List T} {vs : List V} (n : Nat), RepTs K F ts vs → RepTs K F (ts.drop n) (vs.drop n)
  | _, _, 0, r => r
  | _, _, _ + 1, .nil => .nil
  | _, _, n + 1, .cons _ t => t.drop n
theorem RepTs.set {t : T} {v : V} (r : RepT K F t v) : ∀ {ts : List T} {vs : List V} (i : Nat), RepTs K F ts vs → RepTs K F (ts.set i t) (vs.set i v)
  | _, _, _, .nil => .nil
  | _, _, 0, .cons _ q => .cons r q
  | _, _, i + 1, .cons p q => .cons p (RepTs.set r i q)
theorem RepTs.erase : ∀ {ts : List T} {vs : List V} (i : Nat), RepTs K F ts vs → RepTs K F (ts.eraseIdx i) (vs.eraseIdx i)
  | _, _, _, .nil => .nil
  | _, _, 0, .cons _ q => q
  | _, _, i + 1, .cons p q => .cons p (q.erase i)
theorem RepTs.cut {ts : List T} {vs : List V} (r : RepTs K F ts vs) (lo hi : Option Int) : RepTs K F (cutT ts lo hi) (cutV vs lo hi) := by
  unfold cutT cutV
  rw [r.length]
  exact (r.drop _).take _
theorem RepTs.ints : ∀ (ns : List Int), RepTs K F (ns.map .int) (ns.map .int)
  | [] => .nil
  | n :: ns => .cons (.int n) (RepTs.ints ns)
theorem RepTs.ofInts : ∀ {ts : List T} {vs : List V} {ns : List Int}, RepTs K F ts vs → intsT ts = some ns → vs = ns.map V.int
  | _, _, _, .nil, e => by cases e; rfl
  | _, _, _, .cons (.int i) r, e => by
    rename_i ts vs
    unfold intsT at e
    cases q : intsT ts with
    | none => rw [q] at e; cases e
    | some ms => rw [q] at e; cases e; rw [r.ofInts q]; rfl
  | _, _, _, .cons .non r, e => by cases e
  | _, _, _, .cons (.bl _) r, e => by cases e
  | _, _, _, .cons (.str _) r, e => by cases e
  | _, _, _, .cons (.tup _ _ _) r, e => by cases e
  | _, _, _, .cons (.lst _ _ _) r, e => by cases e
  | _, _, _, .cons (.rd _ _) r, e => by cases e
  | _, _, _, .cons (.dK _ _ _) r, e => by cases e
  | _, _, _, .cons (.dT _ _ _) r, e => by cases e
  | _, _, _, .cons (.ob _ _ _ _) r, e => by cases e
theorem RepTs.ofBls : ∀ {ts : List T} {vs : List V} {ns : List Bool}, RepTs K F ts vs → bls ts = some ns → vs = ns.map V.bl
  | _, _, _, .nil, e => by cases e; rfl
  | _, _, _, .cons (.bl i) r, e => by
    rename_i ts vs
    unfold bls at e
    cases q : bls ts with
    | none => rw [q] at e; cases e
    | some ms => rw [q] at e; cases e; rw [r.ofBls q]; rfl
  | _, _, _, .cons .non r, e => by cases e
  | _, _, _, .cons (.int _) r, e => by cases e
  | _, _, _, .cons (.str _) r, e => by cases e
  | _, _, _, .cons (.tup _ _ _) r, e => by cases e
  | _, _, _, .cons (.lst _ _ _) r, e => by cases e
  | _, _, _, .cons (.rd _ _) r, e => by cases e
  | _, _, _, .cons (.dK _ _ _) r, e => by cases e
  | _, _, _, .cons (.dT _ _ _) r, e => by cases e
  | _, _, _, .cons (.ob _ _ _ _) r, e => by cases e
end

/-! ### what is owned -/
def RepB (K : PySem.W.Frag) (F H : Hp) : B → V → AS → Prop
  | .fz t, v, A => (∀ a, ¬ A a) ∧ RepT K F t v
  | .ls ts, v, A => ∃ a vs, v = .ref a ∧ (∀ b, A b ↔ b = a) ∧ F a = none ∧ H a = some (.lst vs) ∧ vs.length ≤ sizeLine ∧ RepTs K F ts vs
  | .dk ts, v, A => ∃ a vs, v = .ref a ∧ (∀ b, A b ↔ b = a) ∧ F a = none ∧ H a = some (.dK vs) ∧ vs.length ≤ sizeLine ∧ RepK K F ts vs
  | .dt ts, v, A => ∃ a vs, v = .ref a ∧ (∀ b, A b ↔ b = a) ∧ F a = none ∧ H a = some (.dT vs) ∧ vs.length ≤ sizeLine ∧ RepD K F ts vs
def RepO (K : PySem.W.Frag) (F H : Hp) : Option B → Option V → AS → Prop
  | some x, some v, A => RepB K F H x v A
  | none, none, A => ∀ a, ¬ A a
  | _, _, _ => False
def RepM (K : PySem.W.Frag) (Cl : Nat → Option ClsI) (F H : Hp) : M → V → AS → Prop
  | .bx x, v, A => RepB K F H x v A
  | .ob ci fs, v, A => ∃ (a dx : Addr) (vfs : List (Str × V)) (As : Nat → AS), v = .ref a ∧ dx ≠ a ∧ F a = none ∧ F dx = none ∧ H a = some (.ins ci.C dx vfs) ∧ H dx = some (.own a) ∧
      (∀ b, A b ↔ b = a ∨ b = dx ∨ ∃ j, As j b) ∧ (∀ j, ¬ As j a ∧ ¬ As j dx) ∧ (∀ i j b, i ≠ j → As i b → ¬ As j b) ∧ fs.length = ci.fs.length ∧
      (∀ j f, ci.fs[j]? = some f → RepO K F H ((fs[j]?).getD none) (vfs.lookup f) (As j)) ∧ (∀ j, ci.fs.length ≤ j → ∀ b, ¬ As j b) ∧ (vfs.map (·.1)).Nodup ∧ ∀ p ∈ vfs, p.1 ∈ ci.fs
section
variable {K : PySem.W.Frag} {Cl : Nat → Option ClsI} {F F' H H' : Hp}
theorem RepB.mono {x : B} {v : V} {A : AS} (s : Same F F') (h1 : ∀ a, A a → F' a = none) (h2 : ∀ a o, A a → H a = some o → H' a = some o) (r : RepB K F H x v A) : RepB K F' H' x v A := by
  cases x with
  | fz t => exact ⟨r.1, r.2.mono s⟩
  | ls ts => obtain ⟨a, vs, e, hA, _, h, z, q⟩ := r; exact ⟨a, vs, e, hA, h1 a ((hA a).2 rfl), h2 a _ ((hA a).2 rfl) h, z, q.mono s⟩
  | dk ts => obtain ⟨a, vs, e, hA, _, h, z, q⟩ := r; exact ⟨a, vs, e, hA, h1 a ((hA a).2 rfl), h2 a _ ((hA a).2 rfl) h, z, q.mono s⟩
  | dt ts => obtain ⟨a, vs, e, hA, _, h, z, q⟩ := r; exact ⟨a, vs, e, hA, h1 a ((hA a).2 rfl), h2 a _ ((hA a).2 rfl) h, z, q.mono s⟩
theorem RepM.mono {x : M} {v : V} {A : AS} (s : Same F F') (h1 : ∀ a, A a → F' a = none) (h2 : ∀ a o, A a → H a = some o → H' a = some o) (r : RepM K Cl F H x v A) : RepM K Cl F' H' x v A := by
  cases x with
  | bx x => exact RepB.mono s h1 h2 r
  | ob ci fs =>
    obtain ⟨a, dx, vfs, As, e, hd, _, _, ha, ho, hA, n1, n2, hl, hf, hn, nd, sb⟩ := r
    have aA := (hA a).2 (.inl rfl)
    have dA := (hA dx).2 (.inr (.inl rfl))
    refine ⟨a, dx, vfs, As, e, hd, h1 _ aA, h1 _ dA, h2 _ _ aA ha, h2 _ _ dA ho, hA, n1, n2, hl, fun j f q => ?_, hn, nd, sb⟩
    have r := hf j f q
    cases e1 : (fs[j]?).getD none with
    | none => rw [e1] at r; cases e2 : vfs.lookup f with
      | none => rw [e2] at r; exact r
      | some v => rw [e2] at r; exact r
    | some x => rw [e1] at r; cases e2 : vfs.lookup f with
      | none => rw [e2] at r; exact r
      | some v =>
        rw [e2] at r
        exact RepB.mono s (fun b hb => h1 b ((hA b).2 (.inr (.inr ⟨j, hb⟩)))) (fun b o hb => h2 b o ((hA b).2 (.inr (.inr ⟨j, hb⟩)))) r
theorem RepB.own {x : B} {v : V} {A : AS} (r : RepB K F H x v A) : ∀ a, A a → F a = none ∧ ∃ o, H a = some o := fun a ha => by
  cases x with
  | fz t => exact absurd ha (r.1 a)
  | ls ts => obtain ⟨b, vs, e, hA, f, h, z, q⟩ := r; have := (hA a).1 ha; subst this; exact ⟨f, _, h⟩
  | dk ts => obtain ⟨b, vs, e, hA, f, h, z, q⟩ := r; have := (hA a).1 ha; subst this; exact ⟨f, _, h⟩
  | dt ts => obtain ⟨b, vs, e, hA, f, h, z, q⟩ := r; have := (hA a).1 ha; subst this; exact ⟨f, _, h⟩
theorem RepM.own {x : M} {v : V} {A : AS} (r : RepM K Cl F H x v A) : ∀ a, A a → F a = none ∧ ∃ o, H a = some o := fun b hb => by
  cases x with
  | bx x => exact RepB.own r b hb
  | ob ci fs =>
    obtain ⟨a, dx, vfs, As, e, hd, f1, f2, ha, ho, hA, n1, n2, hl, hf, hn, nd, sb⟩ := r
    rcases (hA b).1 hb with rfl | rfl | ⟨j, hj⟩
    · exact ⟨f1, _, ha⟩
    · exact ⟨f2, _, ho⟩
    · by_cases hjl : j < ci.fs.length
      · have q : ci.fs[j]? = some ci.fs[j] := by simp [hjl]
        have r := hf j _ q
        cases e1 : (fs[j]?).getD none with
        | none => rw [e1] at r; cases e2 : vfs.lookup ci.fs[j] with
          | none => rw [e2] at r; exact absurd hj (r b)
          | some v => rw [e2] at r; exact r.elim
        | some x => rw [e1] at r; cases e2 : vfs.lookup ci.fs[j] with
          | none => rw [e2] at r; exact r.elim
          | some v => rw [e2] at r; exact RepB.own r b hj
      · exact absurd hj (hn j (by omega) b)
/-- the part of the heap that never changes, with what was owned -/
noncomputable def addF (F H : Hp) (A : AS) : Hp := fun a => open Classical in if A a then H a else F a
theorem addF_in {A : AS} {a : Addr} (h : A a) : addF F H A a = H a := by unfold addF; rw [if_pos h]
theorem addF_out {A : AS} {a : Addr} (h : ¬ A a) : addF F H A a = F a := by unfold addF; rw [if_neg h]
theorem addF_same {A : AS} (h : ∀ a, A a → F a = none) : Same F (addF F H A) := fun b o e => by
  by_cases hb : A b
  · rw [h b hb] at e; cases e
  · rw [addF_out hb]; exact e
theorem addF_le {A : AS} (h : Same F H) : Same (addF F H A) H := fun b o e => by
  by_cases hb : A b
  · rw [addF_in hb] at e; exact e
  · rw [addF_out hb] at e; exact h b o e
theorem RepB.frz {x : B} {v : V} {A : AS} (r : RepB K F H x v A) : RepT K (addF F H A) x.frz v := by
  have s : Same F (addF F H A) := addF_same fun a h => (r.own a h).1
  cases x with
  | fz t => exact r.2.mono s
  | ls ts => obtain ⟨a, vs, rfl, hA, f, h, z, q⟩ := r; exact .lst (by rw [addF_in ((hA a).2 rfl)]; exact h) z (q.mono s)
  | dk ts => obtain ⟨a, vs, rfl, hA, f, h, z, q⟩ := r; exact .dK (by rw [addF_in ((hA a).2 rfl)]; exact h) z (q.mono s)
  | dt ts => obtain ⟨a, vs, rfl, hA, f, h, z, q⟩ := r; exact .dT (by rw [addF_in ((hA a).2 rfl)]; exact h) z (q.mono s)
/-- read as it stands: the root in H, what is within in F -/
theorem RepB.view {x : B} {v : V} {A : AS} (s : Same F H) (r : RepB K F H x v A) : RepT K H x.frz v := by
  cases x with
  | fz t => exact r.2.mono s
  | ls ts => obtain ⟨a, vs, rfl, hA, f, h, z, q⟩ := r; exact .lst h z (q.mono s)
  | dk ts => obtain ⟨a, vs, rfl, hA, f, h, z, q⟩ := r; exact .dK h z (q.mono s)
  | dt ts => obtain ⟨a, vs, rfl, hA, f, h, z, q⟩ := r; exact .dT h z (q.mono s)
theorem addF_sub {A B : AS} (h : ∀ a, B a → A a) (hf : ∀ a, A a → F a = none) : Same (addF F H B) (addF F H A) := fun b o e => by
  by_cases hb : B b
  · rw [addF_in hb] at e; rw [addF_in (h b hb)]; exact e
  · rw [addF_out hb] at e
    by_cases ha : A b
    · rw [hf b ha] at e; cases e
    · rw [addF_out ha]; exact e
theorem frz_fields {vfs : List (Str × V)} {G : Hp} : ∀ {fs : List (Option B)} {ns : List Str} {ts : List T} (As : Nat → AS), frzFs fs = some ts → fs.length = ns.length → (∀ (j : Nat) (f : Str), ns[j]? = some f → RepO K F H ((fs[j]?).getD none) (vfs.lookup f) (As j)) →
    (∀ j, Same (addF F H (As j)) G) → ∃ vs, RepTs K G ts vs ∧ ns.map (fun f => vfs.lookup f) = vs.map some
  | [], [], ts, As, e, _, _, _ => by cases e; exact ⟨[], .nil, rfl⟩
  | [], _ :: _, _, _, _, l, _, _ => by cases l
  | _ :: _, [], _, _, _, l, _, _ => by cases l
  | none :: fs, n :: ns, ts, As, e, _, _, _ => by cases e
  | some x :: fs, n :: ns, ts, As, e, l, h, s => by
    unfold frzFs at e
    cases q : frzFs fs with
    | none => rw [q] at e; cases e
    | some us =>
      rw [q] at e; cases e
      obtain ⟨vs, r, m⟩ := frz_fields (fun j => As (j + 1)) q (by simpa using l) (fun j f hj => h (j + 1) f (by simpa using hj)) fun j => s (j + 1)
      have h0 : RepO K F H (some x) (vfs.lookup n) (As 0) := h 0 n rfl
      cases q2 : vfs.lookup n with
      | none => rw [q2] at h0; exact h0.elim
      | some v =>
        rw [q2] at h0
        exact ⟨v :: vs, .cons ((RepB.frz h0).mono (s 0)) r, by rw [List.map_cons, List.map_cons, m, q2]⟩
theorem RepM.frz {x : M} {v : V} {A : AS} {t : T} (r : RepM K Cl F H x v A) (e : x.frz = some t) : RepT K (addF F H A) t v := by
  cases x with
  | bx x => cases e; exact RepB.frz r
  | ob ci fs =>
    have ro := RepM.own (K := K) (Cl := Cl) (x := .ob ci fs) r
    have e : (frzFs fs).map (T.ob ci ·) = some t := e
    cases q : frzFs fs with
    | none => rw [q] at e; cases e
    | some ts =>
      rw [q] at e; cases e
      obtain ⟨a, dx, vfs, As, rfl, hd, f1, f2, ha, ho, hA, n1, n2, hl, hf, hn, nd, sb⟩ := r
      obtain ⟨vs, r1, r2⟩ := frz_fields (G := addF F H A) As q hl hf fun j => addF_sub (fun b hb => (hA b).2 (.inr (.inr ⟨j, hb⟩))) fun b hb => (ro b hb).1
      exact .ob (dx := dx) (vfs := vfs) (by rw [addF_in ((hA a).2 (.inl rfl))]; exact ha) r1 r2 sb

/-! ### the slots -/
structure Good (K : PySem.W.Frag) (Cl : Nat → Option ClsI) (ρ : Slots) (σ : St) (F : Hp) (As : Nat → AS) (H : Hp) : Prop where
  same : Same F H
  rep : ∀ (i : Nat) (m : M), ρ[i]? = some (some m) → ∃ v, σ[i]? = some (some v) ∧ RepM K Cl F H m v (As i)
  out : ∀ i : Nat, (∀ m : M, ρ[i]? ≠ some (some m)) → ∀ a, ¬ As i a
  dis : ∀ i j a, i ≠ j → As i a → ¬ As j a
  len : ρ.length = σ.length
def Own (As : Nat → AS) : AS := fun a => ∃ i, As i a
def non : AS := fun _ => False
abbrev AS.or (A B : AS) : AS := fun a => A a ∨ B a
theorem Good.own {ρ : Slots} {σ : St} {As : Nat → AS} (g : Good K Cl ρ σ F As H) {i : Nat} {a : Addr} (h : As i a) : F a = none ∧ ∃ o, H a = some o := by
  by_cases e : ∃ m, ρ[i]? = some (some m)
  · obtain ⟨m, e⟩ := e
    obtain ⟨v, _, r⟩ := g.rep i m e
    exact r.own a h
  · exact absurd h (g.out i (fun m q => e ⟨m, q⟩) a)
/-- what may have happened between two heaps: S the owned ones ahead, S' behind -/
structure Step (pu : Bool) (F : Hp) (S : AS) (H : Hp) (F' : Hp) (S' : AS) (H' : Hp) : Prop where
  hf : Same F F'
  keep : ∀ b o, H b = some o → ¬ S b → H' b = some o
  own : ∀ b, S' b → S b ∨ H b = none
  frz : ∀ b o, F' b = some o → F b = some o ∨ S b ∨ H b = none
  pur : pu = true → Same H H'
theorem Step.refl {pu : Bool} {F : Hp} {S : AS} {H : Hp} : Step pu F S H F S H :=
  ⟨Same.refl F, fun _ _ e _ => e, fun _ h => .inl h, fun _ _ h => .inl h, fun _ => Same.refl H⟩
theorem Step.trans {p q : Bool} {F1 F2 F3 : Hp} {S1 S2 S3 : AS} {H1 H2 H3 : Hp} (a : Step p F1 S1 H1 F2 S2 H2) (b : Step q F2 S2 H2 F3 S3 H3) : Step (p && q) F1 S1 H1 F3 S3 H3 := by
  have back : ∀ c, H2 c = none → S1 c ∨ H1 c = none := fun c e => by
    by_cases hs : S1 c
    · exact .inl hs
    · cases q : H1 c with
      | none => exact .inr rfl
      | some o => rw [a.keep c o q hs] at e; cases e
  refine ⟨a.hf.trans b.hf, fun c o e h => ?_, fun c h => ?_, fun c o e => ?_, fun h => ?_⟩
  · refine b.keep c o (a.keep c o e h) fun z => ?_
    rcases a.own c z with y | y
    · exact h y
    · rw [y] at e; cases e
  · rcases b.own c h with z | z
    · exact a.own c z
    · exact back c z
  · rcases b.frz c o e with z | z | z
    · exact a.frz c o z
    · rcases a.own c z with y | y
      · exact .inr (.inl y)
      · exact .inr (.inr y)
    · rcases back c z with y | y
      · exact .inr (.inl y)
      · exact .inr (.inr y)
  · rw [Bool.and_eq_true] at h
    exact (a.pur h.1).trans (b.pur h.2)
theorem Step.weak {p q : Bool} {F F' : Hp} {S S' : AS} {H H' : Hp} (a : Step p F S H F' S' H') (h : q = true → p = true) : Step q F S H F' S' H' := ⟨a.hf, a.keep, a.own, a.frz, fun e => a.pur (h e)⟩
/-- fewer are owned behind; more ahead -/
theorem Step.less {p : Bool} {F F' : Hp} {S S' S2 : AS} {H H' : Hp} (a : Step p F S H F' S' H') (h : ∀ b, S2 b → S' b) : Step p F S H F' S2 H' := ⟨a.hf, a.keep, fun b q => a.own b (h b q), a.frz, a.pur⟩
theorem Step.more {p : Bool} {F F' : Hp} {S S' S2 : AS} {H H' : Hp} (a : Step p F S H F' S' H') (h : ∀ b, S b → S2 b) : Step p F S2 H F' S' H' :=
  ⟨a.hf, fun b o e n => a.keep b o e fun z => n (h b z), fun b q => (a.own b q).imp (h b) id, fun b o e => (a.frz b o e).imp id (Or.imp (h b) id), a.pur⟩
/-- what stands aside, owned by nobody who acts, stays -/
theorem Step.held {p : Bool} {F F' : Hp} {S S' : AS} {H H' : Hp} {m : M} {v : V} {A : AS} (a : Step p F S H F' S' H') (r : RepM K Cl F H m v A) (d : ∀ b, A b → ¬ S b) :
    RepM K Cl F' H' m v A ∧ ∀ b, A b → ¬ S' b := by
  have key : ∀ b, A b → F' b = none ∧ ¬ S' b := fun b hb => by
    obtain ⟨f, o, e⟩ := r.own b hb
    refine ⟨?_, fun z => ?_⟩
    · cases q : F' b with
      | none => rfl
      | some u =>
        rcases a.frz b u q with z | z | z
        · rw [f] at z; cases z
        · exact absurd z (d b hb)
        · rw [e] at z; cases z
    · rcases a.own b z with y | y
      · exact d b hb y
      · rw [e] at y; cases y
  exact ⟨r.mono a.hf (fun b hb => (key b hb).1) fun b o hb e => a.keep b o e (d b hb), fun b hb => (key b hb).2⟩
/-- freezing what stands aside -/
theorem Good.freeze {ρ : Slots} {σ : St} {As : Nat → AS} {A : AS} (g : Good K Cl ρ σ F As H) (hA : ∀ a, A a → F a = none) (d : ∀ a, A a → ¬ Own As a) :
    Good K Cl ρ σ (addF F H A) As H := by
  have s : Same F (addF F H A) := addF_same hA
  refine ⟨addF_le g.same, fun i m e => ?_, g.out, g.dis, g.len⟩
  obtain ⟨v, ev, r⟩ := g.rep i m e
  refine ⟨v, ev, r.mono s (fun a ha => ?_) fun _ _ _ e => e⟩
  rw [addF_out fun z => d a z ⟨i, ha⟩]
  exact (r.own a ha).1
theorem step_freeze {S A : AS} (hA : ∀ a, A a → F a = none) : Step true F (S.or A) H (addF F H A) S H :=
  ⟨addF_same hA, fun _ _ e _ => e, fun b h => .inl (.inl h), fun b o e => by
    by_cases hb : A b
    · exact .inr (.inl (.inr hb))
    · rw [addF_out hb] at e; exact .inl e, fun _ => Same.refl H⟩
end
end Mk
/-! Mk: the built-in operations, by values. -/
namespace Mk
open PySem L2
section
variable {K : PySem.W.Frag} {Cl : Nat → Option ClsI} {F H : Hp}
/-- read now: the root as it stands in H, what is within never changes -/
inductive Rep1 (K : PySem.W.Frag) (F H : Hp) : T → V → Prop
  | fz {t : T} {v : V} : RepT K F t v → Rep1 K F H t v
  | ls {a : Addr} {vs : List V} {ts : List T} : H a = some (.lst vs) → vs.length ≤ sizeLine → RepTs K F ts vs → Rep1 K F H (.lst ts) (.ref a)
  | dk {a : Addr} {vs : List (Key × V)} {ts : List (Key × T)} : H a = some (.dK vs) → vs.length ≤ sizeLine → RepK K F ts vs → Rep1 K F H (.dK ts) (.ref a)
  | dt {a : Addr} {vs : List (List Key × V)} {ts : List (List Key × T)} : H a = some (.dT vs) → vs.length ≤ sizeLine → RepD K F ts vs → Rep1 K F H (.dT ts) (.ref a)
inductive Rep1s (K : PySem.W.Frag) (F H : Hp) : List T → List V → Prop
  | nil : Rep1s K F H [] []
  | cons {t : T} {v : V} {ts : List T} {vs : List V} : Rep1 K F H t v → Rep1s K F H ts vs → Rep1s K F H (t :: ts) (v :: vs)
theorem Rep1.of {x : B} {v : V} {A : AS} (r : RepB K F H x v A) : Rep1 K F H x.frz v := by
  cases x with
  | fz t => exact .fz r.2
  | ls ts => obtain ⟨a, vs, rfl, hA, f, h, z, q⟩ := r; exact .ls h z q
  | dk ts => obtain ⟨a, vs, rfl, hA, f, h, z, q⟩ := r; exact .dk h z q
  | dt ts => obtain ⟨a, vs, rfl, hA, f, h, z, q⟩ := r; exact .dt h z q
theorem Rep1.whole {t : T} {v : V} (s : Same F H) (r : Rep1 K F H t v) : RepT K H t v := by
  cases r with
  | fz r => exact r.mono s
  | ls h z r => exact .lst h z (r.mono s)
  | dk h z r => exact .dK h z (r.mono s)
  | dt h z r => exact .dT h z (r.mono s)
theorem Rep1.mono {F' H' : Hp} {t : T} {v : V} (s : Same F F') (sh : Same H H') (r : Rep1 K F H t v) : Rep1 K F' H' t v := by
  cases r with
  | fz r => exact .fz (r.mono s)
  | ls h z r => exact .ls (sh _ _ h) z (r.mono s)
  | dk h z r => exact .dk (sh _ _ h) z (r.mono s)
  | dt h z r => exact .dt (sh _ _ h) z (r.mono s)
theorem Rep1s.mono {F' H' : Hp} (s : Same F F') (sh : Same H H') : ∀ {ts : List T} {vs : List V}, Rep1s K F H ts vs → Rep1s K F' H' ts vs
  | _, _, .nil => .nil
  | _, _, .cons a b => .cons (a.mono s sh) (b.mono s sh)
theorem Rep1s.one {ts : List T} {x : V} (r : Rep1s K F H ts [x]) : ∃ t, ts = [t] ∧ Rep1 K F H t x := by
  cases r with
  | cons a b => cases b; exact ⟨_, rfl, a⟩
theorem Rep1s.two {ts : List T} {x y : V} (r : Rep1s K F H ts [x, y]) : ∃ t u, ts = [t, u] ∧ Rep1 K F H t x ∧ Rep1 K F H u y := by
  cases r with
  | cons a b => cases b with
    | cons c d => cases d; exact ⟨_, _, rfl, a, c⟩
theorem Rep1.int_ {i : Int} {v : V} (r : Rep1 K F H (.int i) v) : v = .int i := by cases r with | fz r => cases r; rfl
theorem Rep1.bl_ {i : Bool} {v : V} (r : Rep1 K F H (.bl i) v) : v = .bl i := by cases r with | fz r => cases r; rfl
theorem Rep1.str_ {i : Str} {v : V} (r : Rep1 K F H (.str i) v) : v = .str i := by cases r with | fz r => cases r; rfl
theorem Rep1.non_ {v : V} (r : Rep1 K F H .non v) : v = .non := by cases r with | fz r => cases r; rfl
theorem Rep1.lst_ {ts : List T} {v : V} (s : Same F H) (r : Rep1 K F H (.lst ts) v) : ∃ a vs, v = .ref a ∧ H a = some (.lst vs) ∧ vs.length ≤ sizeLine ∧ RepTs K F ts vs := by
  cases r with
  | fz r => cases r with | lst h z q => exact ⟨_, _, rfl, s _ _ h, z, q⟩
  | ls h z q => exact ⟨_, _, rfl, h, z, q⟩
theorem Rep1.tup_ {ts : List T} {v : V} (r : Rep1 K F H (.tup ts) v) : ∃ a vs, v = .ref a ∧ SqT K F a vs ∧ vs.length ≤ sizeLine ∧ RepTs K F ts vs := by
  cases r with
  | fz r => cases r with | tup h z q => exact ⟨_, _, rfl, h, z, q⟩
theorem Rep1.rd_ {ts : List Int} {v : V} (r : Rep1 K F H (.rd ts) v) : ∃ a, v = .ref a ∧ SqL K F a (ts.map V.int) ∧ ts.length ≤ sizeLine := by
  cases r with
  | fz r => cases r with | rd h z => exact ⟨_, rfl, h, z⟩

theorem Same.push {p : Addr} {o : HO} {H : Hp} (h : H p = none) : Same H (upd H p o) := fun b u e => by
  rw [upd_ne (ne_of_none e h)]; exact e
/-- a new list that is owned -/
theorem new_own {p : Addr} {o : HO} (s : Same F H) (h : H p = none) : Step true F non H F (fun b => b = p) (upd H p o) :=
  ⟨Same.refl F, fun b u e _ => by rw [upd_ne (ne_of_none e h)]; exact e, fun b e => .inr (by rw [e]; exact h), fun _ _ e => .inl e, fun _ => Same.push h⟩
/-- a new object that never changes -/
theorem new_frz {p : Addr} {o : HO} (s : Same F H) (h : H p = none) : Step true F non H (upd F p o) non (upd H p o) :=
  ⟨Same.push (s.free h), fun b u e _ => by rw [upd_ne (ne_of_none e h)]; exact e, fun b e => e.elim, fun b u e => by
    by_cases hb : b = p
    · exact .inr (.inr (by rw [hb]; exact h))
    · rw [upd_ne hb] at e; exact .inl e, fun _ => Same.push h⟩
/-- what is wanted of an operation's answer m -/
abbrev Ans (K : PySem.W.Frag) (Cl : Nat → Option ClsI) (F H : Hp) (m : M) (Q : VK) : Prop := ∀ v F' H' A, Step true F non H F' A H' → Same F' H' → RepM K Cl F' H' m v A → Q v H'
theorem Ans.val {t : T} {v : V} {Q : VK} (k : Ans K Cl F H (mt t) Q) (s : Same F H) (r : RepT K F t v) : Q v H := k v F H non Step.refl s ⟨fun _ h => h, r⟩
theorem Ans.newL {ts : List T} {vs : List V} {p : Addr} {Q : VK} (k : Ans K Cl F H (.bx (.ls ts)) Q) (s : Same F H) (h : H p = none) (r : RepTs K F ts vs) (z : vs.length ≤ sizeLine) : Q (.ref p) (upd H p (.lst vs)) :=
  k (.ref p) F _ _ (new_own s h) (s.trans (Same.push h)) ⟨p, vs, rfl, fun _ => Iff.rfl, s.free h, upd_same, z, r⟩
theorem Ans.newT {ts : List T} {vs : List V} {p : Addr} {Q : VK} (k : Ans K Cl F H (mt (.tup ts)) Q) (s : Same F H) (h : H p = none) (r : RepTs K F ts vs) (z : vs.length ≤ sizeLine) : Q (.ref p) (upd H p (.tup vs)) := by
  refine k (.ref p) (upd F p (.tup vs)) _ non (new_frz s h) (fun b o e => ?_) ⟨fun _ h => h, .tup (SqT.of upd_same) z (r.mono (Same.push (s.free h)))⟩
  by_cases hb : b = p
  · rw [hb, upd_same] at e; rw [hb, upd_same]; exact e
  · rw [upd_ne hb] at e ⊢; exact s b o e
/-- an operation by its values -/
def RP (K : PySem.W.Frag) (Cl : Nat → Option ClsI) (p : Prim) (xs : List V) (H : Hp) (Q : VK) : Prop := ∃ F ts m, Same F H ∧ Rep1s K F H ts xs ∧ primSem p ts = some m ∧ Ans K Cl F H m Q
abbrev R2P (K : PySem.W.Frag) (Cl : Nat → Option ClsI) (p : Prim) : R2 := fun x y H Q => RP K Cl p [x, y] H Q
end
theorem ri_ {i : Int} {m : M} (h : ri i = some m) : m = mt (.int i) := by cases h; rfl
theorem rb_ {i : Bool} {m : M} (h : rb i = some m) : m = mt (.bl i) := by cases h; rfl

mutual
theorem RepT.data {K : PySem.W.Frag} {H : Hp} : ∀ {t : T} {v : V} {d : PyData}, RepT K H t v → t.toD = some d → Dp K H v d
  | _, _, _, .non, e => by cases e; exact .non
  | _, _, _, .bl b, e => by cases e; exact .bl b
  | _, _, _, .int i, e => by cases e; exact .int i
  | _, _, _, .str x, e => by cases e; exact .str x
  | _, _, d, .tup h z r, e => by
    rename_i a vs ts
    cases q : T.toDs ts with
    | none => simp [T.toD, q] at e
    | some ds => simp [T.toD, q] at e; subst e; exact .tup h (RepTs.data r q)
  | _, _, d, .lst h z r, e => by
    rename_i a vs ts
    cases q : T.toDs ts with
    | none => simp [T.toD, q] at e
    | some ds => simp [T.toD, q] at e; subst e; exact .lst (SqL.of h) (RepTs.data r q)
  | _, _, _, .rd _ _, e => by cases e
  | _, _, _, .dK _ _ _, e => by cases e
  | _, _, _, .dT _ _ _, e => by cases e
theorem RepTs.data {K : PySem.W.Frag} {H : Hp} : ∀ {ts : List T} {vs : List V} {ds : List PyData}, RepTs K H ts vs → T.toDs ts = some ds → DpAll K H vs ds
  | _, _, _, .nil, e => by cases e; exact .nil
  | _, _, ds, .cons a b, e => by
    rename_i t v ts vs
    cases q : t.toD with
    | none => simp [T.toDs, q] at e
    | some d =>
      cases q2 : T.toDs ts with
      | none => simp [T.toDs, q, q2] at e
      | some ds => simp [T.toDs, q, q2] at e; subst e; exact .cons (RepT.data a q) (RepTs.data b q2)
end
theorem maxL_mem : ∀ {ns : List Int}, 0 < ns.length → maxL ns ∈ ns
  | [a], _ => by simp [maxL]
  | a :: b :: r, _ => by
    have ih := maxL_mem (ns := b :: r) (by simp)
    unfold maxL
    split
    · exact List.mem_cons_of_mem _ ih
    · exact List.mem_cons_self
theorem maxL_ge : ∀ {ns : List Int} {y : Int}, y ∈ ns → y ≤ maxL ns
  | [a], y, h => by simp at h; subst h; simp [maxL]
  | a :: b :: r, y, h => by
    have ih := fun z => maxL_ge (ns := b :: r) (y := y) z
    unfold maxL
    rcases List.mem_cons.mp h with rfl | h
    · split <;> omega
    · have := ih h
      split <;> omega
theorem minL_mem : ∀ {ns : List Int}, 0 < ns.length → minL ns ∈ ns
  | [a], _ => by simp [minL]
  | a :: b :: r, _ => by
    have ih := minL_mem (ns := b :: r) (by simp)
    unfold minL
    split
    · exact List.mem_cons_of_mem _ ih
    · exact List.mem_cons_self
theorem minL_le : ∀ {ns : List Int} {y : Int}, y ∈ ns → minL ns ≤ y
  | [a], y, h => by simp at h; subst h; simp [minL]
  | a :: b :: r, y, h => by
    have ih := fun z => minL_le (ns := b :: r) (y := y) z
    unfold minL
    rcases List.mem_cons.mp h with rfl | h
    · split <;> omega
    · have := ih h
      split <;> omega
theorem insI_perm (a : Int) : ∀ l : List Int, (insI a l).Perm (a :: l)
  | [] => .refl _
  | b :: r => by
    unfold insI
    split
    · exact .refl _
    · exact ((insI_perm a r).cons b).trans (.swap a b r)
theorem sortI_perm : ∀ l : List Int, (sortI l).Perm l
  | [] => .refl _
  | a :: r => (insI_perm a _).trans ((sortI_perm r).cons a)
theorem insI_sorted (a : Int) : ∀ {l : List Int}, l.Pairwise (· ≤ ·) → (insI a l).Pairwise (· ≤ ·)
  | [], _ => by simp [insI]
  | b :: r, h => by
    unfold insI
    have hb := List.pairwise_cons.mp h
    split
    · rename_i hab
      refine List.pairwise_cons.mpr ⟨fun c hc => ?_, h⟩
      rcases List.mem_cons.mp hc with rfl | hc
      · exact hab
      · have := hb.1 c hc; omega
    · rename_i hab
      refine List.pairwise_cons.mpr ⟨fun c hc => ?_, insI_sorted a hb.2⟩
      rcases List.mem_cons.mp ((insI_perm a r).mem_iff.mp hc) with rfl | hc
      · omega
      · exact hb.1 c hc
theorem sortI_sorted : ∀ l : List Int, (sortI l).Pairwise (· ≤ ·)
  | [] => .nil
  | a :: r => insI_sorted a (sortI_sorted r)

section
variable {X : Cx} {Cl : Nat → Option ClsI}
theorem OpR.imp {f : Value → Value → Sem Value} {r r' : R2} (h : OpR X f r) (w : ∀ x y H Q, r' x y H Q → r x y H Q) : OpR X f r' := fun pins s σ H x y v u Q I rx ry q => h pins s σ H x y v u Q I rx ry (w x y H Q q)
theorem q_add : OpR X (binaryOp .Add) (R2P X.K Cl .add) := by
  intro pins s σ H x y v u Q I rx ry ⟨F, ts, m, sF, r, e, k⟩
  obtain ⟨a, b, rfl, ra, rb⟩ := r.two
  have e : pAdd a b = some m := e
  unfold pAdd at e
  split at e
  · cases ri_ e; cases ra.int_; cases rb.int_
    exact op_add pins s σ H _ _ v u Q I rx ry ⟨_, _, rfl, rfl, k.val sF (.int _)⟩
  · split at e
    · rename_i hz
      cases e; cases ra.str_; cases rb.str_
      exact op_add_str pins s σ H _ _ v u Q I rx ry ⟨_, _, rfl, rfl, hz, k.val sF (.str _)⟩
    · cases e
  · split at e
    · rename_i hz
      cases e
      obtain ⟨p, vs, rfl, hp, z1, r1⟩ := ra.lst_ sF
      obtain ⟨q, ws, rfl, hq, z2, r2⟩ := rb.lst_ sF
      rw [r1.length, r2.length] at hz
      exact op_cat pins s σ H _ _ v u Q I rx ry ⟨_, _, _, _, rfl, rfl, hp, hq, hz, fun d hd => k.newL sF hd (r1.append r2) (by rw [List.length_append]; exact hz)⟩
    · cases e
  · split at e
    · rename_i hz
      cases e
      obtain ⟨p, vs, rfl, hp, z1, r1⟩ := ra.tup_
      obtain ⟨q, ws, rfl, hq, z2, r2⟩ := rb.tup_
      rw [r1.length, r2.length] at hz
      refine op_catA pins s σ H _ _ v u Q I rx ry ⟨_, _, _, _, rfl, rfl, sqT_mono sF hp, sqT_mono sF hq, hz, fun h0 => ?_, fun h0 h1 => ?_, fun _ _ d hd => k.newT sF hd (r1.append r2) (by rw [List.length_append]; exact hz)⟩
      · subst h0; cases r1
        exact k.val sF (.tup hq z2 r2)
      · subst h1; cases r2
        rw [List.append_nil] at k
        exact k.val sF (.tup hp z1 r1)
    · cases e
  · cases e
theorem q_sub : OpR X (binaryOp .Sub) (R2P X.K Cl .sub) := by
  intro pins s σ H x y v u Q I rx ry ⟨F, ts, m, sF, r, e, k⟩
  obtain ⟨a, b, rfl, ra, rb⟩ := r.two
  have e : pSub a b = some m := e
  unfold pSub at e
  split at e
  · cases ri_ e; cases ra.int_; cases rb.int_
    exact op_sub pins s σ H _ _ v u Q I rx ry ⟨_, _, rfl, rfl, k.val sF (.int _)⟩
  · cases e
theorem reps_flat {K : PySem.W.Frag} {F : Hp} {ts : List T} {vs : List V} (r : RepTs K F ts vs) : ∀ n : Nat, RepTs K F (List.replicate n ts).flatten (List.replicate n vs).flatten
  | 0 => .nil
  | n + 1 => by
    rw [List.replicate_succ, List.replicate_succ, List.flatten_cons, List.flatten_cons]
    exact r.append (reps_flat r n)
theorem flat_len {α : Type} (l : List α) : ∀ n : Nat, (List.replicate n l).flatten.length = l.length * n
  | 0 => by simp
  | n + 1 => by rw [List.replicate_succ, List.flatten_cons, List.length_append, flat_len l n, Nat.mul_succ, Nat.add_comm]
theorem q_mul : OpR X (binaryOp .Mult) (R2P X.K Cl .mul) := by
  intro pins s σ H x y v u Q I rx ry ⟨F, ts, m, sF, r, e, k⟩
  obtain ⟨a, b, rfl, ra, rb⟩ := r.two
  have e : pMul a b = some m := e
  unfold pMul at e
  split at e
  · split at e
    · rename_i h
      cases ri_ e; cases ra.int_; cases rb.int_
      rcases h with h | ⟨h1, h2⟩
      · exact op_mul pins s σ H _ _ v u Q I rx ry ⟨_, _, rfl, rfl, h.imp (fun z => of_decide_eq_true z) (fun z => of_decide_eq_true z), k.val sF (.int _)⟩
      · exact op_mulX pins s σ H _ _ v u Q I rx ry ⟨_, _, rfl, rfl, mulx_ok (of_decide_eq_true h1) (of_decide_eq_true h2) (by decide), k.val sF (.int _)⟩
    · cases e
  · split at e
    · rename_i h
      cases e; cases rb.int_
      obtain ⟨p, vs, rfl, hp, z1, r1⟩ := ra.lst_ sF
      rw [r1.length] at h
      exact op_rep pins s σ H _ _ v u Q I rx ry ⟨_, _, _, rfl, rfl, hp, h.1, h.2.1, h.2.2, fun d hd => k.newL sF hd (reps_flat r1 _) (by rw [flat_len]; exact h.2.2)⟩
    · cases e
  · cases e
theorem op_fdivM : OpR X (binaryOp .FloorDiv) (rI (fun _ j => 0 < j ∧ j.natAbs < 2 ^ 4096) fun i j => .int (i / j)) := opI fun i j _ _ _ _ _ hc q => by
  have h1 : (0 : Int) < j := hc.1
  exact PyProof.Rows.floordiv_int (by omega) (by rw [Int.fdiv_eq_ediv_of_nonneg i (by omega)]; exact q) (.inl (PyProof.noPylong_of_log2 (by
    have := (Nat.log2_lt (n := j.natAbs) (k := 4096) (by omega)).2 hc.2
    omega)))
theorem q_fdiv : OpR X (binaryOp .FloorDiv) (R2P X.K Cl .fdiv) := by
  intro pins s σ H x y v u Q I rx ry ⟨F, ts, m, sF, r, e, k⟩
  obtain ⟨a, b, rfl, ra, rb⟩ := r.two
  have e : pFdiv a b = some m := e
  unfold pFdiv at e
  split at e
  · split at e
    · rename_i h
      cases ri_ e; cases ra.int_; cases rb.int_
      exact op_fdivM pins s σ H _ _ v u Q I rx ry ⟨_, _, rfl, rfl, ⟨h.1, of_decide_eq_true h.2⟩, k.val sF (.int _)⟩
    · cases e
  · cases e
theorem q_mod : OpR X (binaryOp .Mod) (R2P X.K Cl .mod) := by
  intro pins s σ H x y v u Q I rx ry ⟨F, ts, m, sF, r, e, k⟩
  obtain ⟨a, b, rfl, ra, rb⟩ := r.two
  have e : pMod a b = some m := e
  unfold pMod at e
  split at e
  · split at e
    · rename_i h
      cases ri_ e; cases ra.int_; cases rb.int_
      exact op_mod pins s σ H _ _ v u Q I rx ry ⟨_, _, rfl, rfl, h, k.val sF (.int _)⟩
    · cases e
  · cases e
theorem q_pow : OpR X (binaryOp .Pow) (R2P X.K Cl .pow) := by
  intro pins s σ H x y v u Q I rx ry ⟨F, ts, m, sF, r, e, k⟩
  obtain ⟨a, b, rfl, ra, rb⟩ := r.two
  have e : pPow a b = some m := e
  unfold pPow at e
  split at e
  · split at e
    · rename_i h
      cases ri_ e; cases ra.int_; cases rb.int_
      exact op_pow pins s σ H _ _ v u Q I rx ry ⟨_, _, rfl, rfl, h, k.val sF (.int _)⟩
    · cases e
  · cases e
theorem q_cmp {op : CmpOp} {p : Prim} {f : Int → Int → Bool} (hp : ∀ a b, primSem p [a, b] = pCmp f a b) (rule : OpR X (compareOp op) (rI0 fun i j => .bl (f i j))) : OpR X (compareOp op) (R2P X.K Cl p) := by
  intro pins s σ H x y v u Q I rx ry ⟨F, ts, m, sF, r, e, k⟩
  obtain ⟨a, b, rfl, ra, rb⟩ := r.two
  rw [hp] at e
  unfold pCmp at e
  split at e
  · cases rb_ e; cases ra.int_; cases rb.int_
    exact rule pins s σ H _ _ v u Q I rx ry ⟨_, _, rfl, rfl, k.val sF (.bl _)⟩
  · cases e
theorem q_lt : OpR X (compareOp .Lt) (R2P X.K Cl .lt) := q_cmp (fun _ _ => rfl) op_lt
theorem q_le : OpR X (compareOp .LtE) (R2P X.K Cl .le) := q_cmp (fun _ _ => rfl) op_le
theorem q_gt : OpR X (compareOp .Gt) (R2P X.K Cl .gt) := q_cmp (fun _ _ => rfl) op_gt
theorem q_ge : OpR X (compareOp .GtE) (R2P X.K Cl .ge) := q_cmp (fun _ _ => rfl) op_ge
/-- what == tells -/
theorem tEq_run {K : PySem.W.Frag} {F H : Hp} {a b : T} {x y : V} {c : Bool} (sF : Same F H) (ra : Rep1 K F H a x) (rb : Rep1 K F H b y) (e : tEq a b = some c) :
    (scal x y = true ∧ decide (x = y) = c) ∨ ∃ d e, Dp K H x d ∧ Dp K H y e ∧ SeqAt.shaped d = true ∧ SeqAt.shaped e = true ∧ PyData.eqv d e = c := by
  unfold tEq at e
  split at e
  · cases e; cases ra.int_; cases rb.int_; exact .inl ⟨rfl, by simp [Bool.beq_eq_decide_eq]⟩
  · cases e; cases ra.str_; cases rb.str_; exact .inl ⟨rfl, by simp [Bool.beq_eq_decide_eq]⟩
  · cases e; cases ra.non_; cases rb.non_; exact .inl ⟨rfl, by simp⟩
  · cases e; cases ra.bl_; cases rb.bl_; exact .inl ⟨rfl, by simp [Bool.beq_eq_decide_eq]⟩
  · split at e
    · rename_i d e' h1 h2
      split at e
      · rename_i h
        cases e
        exact .inr ⟨d, e', (ra.whole sF).data h1, (rb.whole sF).data h2, h.1, h.2, rfl⟩
      · cases e
    · cases e
theorem q_eq (hu : X.A.units + 64 < cLine) : OpR X (compareOp .Eq) (R2P X.K Cl .eq) := by
  intro pins s σ H x y v u Q I rx ry ⟨F, ts, m, sF, r, e, k⟩
  obtain ⟨a, b, rfl, ra, rb⟩ := r.two
  have e : (tEq a b).map (fun c => mt (.bl c)) = some m := e
  cases q : tEq a b with
  | none => rw [q] at e; cases e
  | some c =>
    rw [q] at e; cases e
    have kv : Q (.bl c) H := k.val sF (.bl _)
    rcases tEq_run sF ra rb q with ⟨h1, h2⟩ | ⟨d, e', h1, h2, h3, h4, h5⟩
    · exact op_eq pins s σ H _ _ v u Q I rx ry ⟨h1, by rw [h2]; exact kv⟩
    · exact op_eqD hu pins s σ H _ _ v u Q I rx ry ⟨d, e', h1, h2, h3, h4, by rw [h5]; exact kv⟩
theorem q_ne (hu : X.A.units + 64 < cLine) : OpR X (compareOp .NotEq) (R2P X.K Cl .ne) := by
  intro pins s σ H x y v u Q I rx ry ⟨F, ts, m, sF, r, e, k⟩
  obtain ⟨a, b, rfl, ra, rb⟩ := r.two
  have e : (tEq a b).map (fun c => mt (.bl (!c))) = some m := e
  cases q : tEq a b with
  | none => rw [q] at e; cases e
  | some c =>
    rw [q] at e; cases e
    have kv : Q (.bl (!c)) H := k.val sF (.bl _)
    rcases tEq_run sF ra rb q with ⟨h1, h2⟩ | ⟨d, e', h1, h2, h3, h4, h5⟩
    · exact op_ne pins s σ H _ _ v u Q I rx ry ⟨h1, by rw [h2]; exact kv⟩
    · exact op_neD hu pins s σ H _ _ v u Q I rx ry ⟨d, e', h1, h2, h3, h4, by rw [h5]; exact kv⟩
theorem isN_ {K : PySem.W.Frag} {F H : Hp} {a : T} {x : V} (ra : Rep1 K F H a x) : a.isN = decide (x = .non) := by
  cases ra with
  | fz r => cases r <;> simp [T.isN]
  | ls _ _ _ => simp [T.isN]
  | dk _ _ _ => simp [T.isN]
  | dt _ _ _ => simp [T.isN]
theorem q_isN : OpR X (compareOp .Is) (fun x y H Q => y = .non ∧ RP X.K Cl .isN [x] H Q) := OpR.imp op_isN fun x y H Q ⟨hy, F, ts, m, sF, r, e, k⟩ => by
  obtain ⟨a, rfl, ra⟩ := r.one
  have e : rb a.isN = some m := e
  cases rb_ e
  exact ⟨hy, by rw [← isN_ ra]; exact k.val sF (.bl _)⟩
theorem q_notN : OpR X (compareOp .IsNot) (fun x y H Q => y = .non ∧ RP X.K Cl .notN [x] H Q) := OpR.imp op_notN fun x y H Q ⟨hy, F, ts, m, sF, r, e, k⟩ => by
  obtain ⟨a, rfl, ra⟩ := r.one
  have e : rb (!a.isN) = some m := e
  cases rb_ e
  exact ⟨hy, by rw [← isN_ ra]; exact k.val sF (.bl _)⟩
theorem reps_rev {K : PySem.W.Frag} {F : Hp} : ∀ {ts : List T} {vs : List V}, RepTs K F ts vs → RepTs K F ts.reverse vs.reverse
  | _, _, .nil => .nil
  | _, _, .cons r rs => by rw [List.reverse_cons, List.reverse_cons]; exact (reps_rev rs).append (.cons r .nil)
theorem q_isb : OpR X (compareOp .Is) (R2P X.K Cl .isb) := OpR.imp op_isBl fun x y H Q ⟨F, ts, m, sF, r, e, k⟩ => by
  obtain ⟨a, b, rfl, ra, rb⟩ := r.two
  have e : (pIsB a b).map (fun c => mt (.bl c)) = some m := e
  unfold pIsB at e
  split at e
  · cases e; cases ra.bl_; cases rb.bl_
    exact ⟨_, _, rfl, rfl, k.val sF (.bl _)⟩
  · cases e
theorem q_notb : OpR X (compareOp .IsNot) (R2P X.K Cl .notb) := OpR.imp op_notBl fun x y H Q ⟨F, ts, m, sF, r, e, k⟩ => by
  obtain ⟨a, b, rfl, ra, rb⟩ := r.two
  have e : (pIsB a b).map (fun c => mt (.bl (!c))) = some m := e
  unfold pIsB at e
  split at e
  · cases e; cases ra.bl_; cases rb.bl_
    exact ⟨_, _, rfl, rfl, k.val sF (.bl _)⟩
  · cases e
def toV : T → V
  | .bl b => .bl b
  | .int i => .int i
  | .str s => .str s
  | _ => .non
theorem rep_flat {K : PySem.W.Frag} {F : Hp} {t : T} {v : V} (r : RepT K F t v) (h : t.flat = true) : v = toV t ∧ flatV v = true := by
  cases r <;> first
    | exact ⟨rfl, rfl⟩
    | cases h
theorem rep1_flat {K : PySem.W.Frag} {F H : Hp} {t : T} {v : V} (r : Rep1 K F H t v) (h : t.flat = true) : v = toV t ∧ flatV v = true := by
  cases r with
  | fz r => exact rep_flat r h
  | ls _ _ _ => cases h
  | dk _ _ _ => cases h
  | dt _ _ _ => cases h
theorem eqV_toV {t u : T} (ht : t.flat = true) (hu : u.flat = true) : eqV (toV t) (toV u) = eqF t u := by
  cases t <;> first
    | (cases ht; done)
    | (cases u <;> first
        | (cases hu; done)
        | rfl)
theorem inV_reps {K : PySem.W.Frag} {F : Hp} {x : T} (hx : x.flat = true) : ∀ {ts : List T} {vs : List V}, RepTs K F ts vs → ts.all T.flat = true → vs.all flatV = true ∧ inV (toV x) vs = ts.any fun y => eqF y x
  | _, _, .nil, _ => ⟨rfl, rfl⟩
  | _, _, .cons r rs, h => by
    rw [List.all_cons, Bool.and_eq_true] at h
    obtain ⟨e1, f1⟩ := rep_flat r h.1
    obtain ⟨f2, e2⟩ := inV_reps hx rs h.2
    refine ⟨by rw [List.all_cons, f1, f2]; rfl, ?_⟩
    rw [List.any_cons, ← e2, ← eqV_toV h.1 hx, ← e1]
    rfl
theorem q_inn (neg : Bool) {op : CmpOp} {p : Prim} (rule : OpR X (compareOp op) (rIn X.K neg)) (hp : ∀ a b, primSem p [a, b] = (pIn a b).map fun c => mt (.bl (if neg then !c else c))) : OpR X (compareOp op) (R2P X.K Cl p) := OpR.imp rule fun x y H Q ⟨F, ts, m, sF, r, e, k⟩ => by
  obtain ⟨a, b, rfl, ra, rb⟩ := r.two
  rw [hp] at e
  obtain ⟨c, hc, e⟩ : ∃ c, pIn a b = some c ∧ mt (.bl (if neg then !c else c)) = m := by
    cases hc : pIn a b with
    | none => rw [hc] at e; cases e
    | some c => rw [hc] at e; exact ⟨c, rfl, Option.some.inj e⟩
  subst e
  have key : ∀ {ys : List T} {vs : List V}, RepTs X.K F ys vs → pInL a ys = some c → flatV x = true ∧ vs.all flatV = true ∧ inV x vs = c := by
    intro ys vs r1 h
    unfold pInL at h
    split at h
    · rename_i h2
      cases h
      obtain ⟨ex, fx⟩ := rep1_flat ra h2.1
      obtain ⟨f2, e2⟩ := inV_reps h2.1 r1 h2.2
      exact ⟨fx, f2, by rw [ex, e2]⟩
    · cases h
  unfold pIn at hc
  split at hc
  · obtain ⟨q, vs, rfl, hq, z1, r1⟩ := rb.lst_ sF
    obtain ⟨k1, k2, k3⟩ := key r1 hc
    exact ⟨q, vs, rfl, .inl (SqL.of hq), k1, k2, by rw [k3]; exact k.val sF (.bl _)⟩
  · obtain ⟨q, vs, rfl, hq, z1, r1⟩ := rb.tup_
    obtain ⟨k1, k2, k3⟩ := key r1 hc
    exact ⟨q, vs, rfl, .inr (sqT_mono sF hq), k1, k2, by rw [k3]; exact k.val sF (.bl _)⟩
  · cases hc
theorem q_neg : UnR X (unaryOp .USub) (fun x H Q => RP X.K Cl .neg [x] H Q) := by
  intro pins s σ H x v Q I rx ⟨F, ts, m, sF, r, e, k⟩
  obtain ⟨a, rfl, ra⟩ := r.one
  have e : pNeg a = some m := e
  unfold pNeg at e
  split at e
  · cases ri_ e; cases ra.int_
    exact un_neg pins s σ H _ v Q I rx ⟨_, rfl, k.val sF (.int _)⟩
  · cases e
theorem map_some {α β : Type} {f : α → β} {o : Option α} {b : β} (h : o.map f = some b) : ∃ a, o = some a ∧ f a = b := by
  cases o with
  | none => cases h
  | some a => exact ⟨a, rfl, Option.some.inj h⟩
theorem atI_len {α β : Type} {xs : List α} {ys : List β} {i : Int} {v : α} (hl : xs.length = ys.length) (h : atI xs i = some v) : ∃ j, ixN ys.length i = some j ∧ xs[j]? = some v := by
  unfold atI at h
  rw [hl] at h
  cases q : ixN ys.length i with
  | none => rw [q] at h; cases h
  | some j => rw [q] at h; exact ⟨j, rfl, h⟩
theorem atI_of {α : Type} {xs : List α} {i : Int} {j : Nat} {v : α} (h : ixN xs.length i = some j) (e : xs[j]? = some v) : atI xs i = some v := by
  unfold atI; rw [h]; exact e
theorem q_idx : IxR X (R2P X.K Cl .idx) := by
  intro value slice pins s σ H x y v u Q I rx ry h hsub
  obtain ⟨F, ts, m, sF, r, e, k⟩ := h
  obtain ⟨a, b, rfl, ra, rb⟩ := r.two
  have e : pIdx a b = some m := e
  unfold pIdx at e
  split at e
  · cases rb.int_
    obtain ⟨t, e2, rfl⟩ := map_some e
    obtain ⟨p, vs, rfl, hp, z1, r1⟩ := ra.lst_ sF
    obtain ⟨j, h1, h2⟩ := atI_len r1.length e2
    obtain ⟨w', h3, r3⟩ := r1.get h2
    exact ix_list value slice pins s σ H _ _ v u Q I rx ry ⟨_, _, _, w', rfl, rfl, SqL.of hp, atI_of h1 h3, k.val sF r3⟩ hsub
  · cases rb.int_
    obtain ⟨t, e2, rfl⟩ := map_some e
    obtain ⟨p, vs, rfl, hp, z1, r1⟩ := ra.tup_
    obtain ⟨j, h1, h2⟩ := atI_len r1.length e2
    obtain ⟨w', h3, r3⟩ := r1.get h2
    exact ix_tup value slice pins s σ H _ _ v u Q I rx ry ⟨_, _, _, w', rfl, rfl, sqT_mono sF hp, atI_of h1 h3, k.val sF r3⟩ hsub
  · cases rb.int_
    obtain ⟨t, e2, rfl⟩ := map_some e
    obtain ⟨p, rfl, hp, z1⟩ := ra.rd_
    obtain ⟨j, h1, h2⟩ := atI_len (List.length_map V.int).symm e2
    exact ix_list value slice pins s σ H _ _ v u Q I rx ry ⟨_, _, _, .int t, rfl, rfl, sF.seq hp, atI_of h1 (by rw [List.getElem?_map, h2]; rfl), k.val sF (.int t)⟩ hsub
  · cases e
/-- a call of a built-in, by values -/
abbrev RC (K : PySem.W.Frag) (Cl : Nat → Option ClsI) (p : Prim) : List V → Hp → VK → Prop := fun xs H Q => RP K Cl p xs H Q
theorem bind_some {α β : Type} {f : α → Option β} {o : Option α} {b : β} (h : o.bind f = some b) : ∃ a, o = some a ∧ f a = some b := by
  cases o with
  | none => cases h
  | some a => exact ⟨a, rfl, h⟩
theorem c_len : CallR X (.builtin "len") (fun xs H Q => (∃ x, xs = [x]) ∧ RP X.K Cl .len xs H Q) := by
  intro pins s σ H xs us Q I r0 h
  obtain ⟨⟨x, rfl⟩, F, ts, m, sF, r, e, k⟩ := h
  obtain ⟨a, rfl, ra⟩ := r.one
  have e : pLen a = some m := e
  unfold pLen at e
  split at e
  · cases ri_ e
    obtain ⟨p, vs, rfl, hp, z1, r1⟩ := ra.lst_ sF
    exact call_len_seq pins s σ H _ us Q I r0 ⟨_, _, rfl, .inl (SqL.of hp), by rw [← r1.length]; exact k.val sF (.int _)⟩
  · cases ri_ e
    obtain ⟨p, vs, rfl, hp, z1, r1⟩ := ra.tup_
    exact call_len_seq pins s σ H _ us Q I r0 ⟨_, _, rfl, .inr (sqT_mono sF hp), by rw [← r1.length]; exact k.val sF (.int _)⟩
  · cases ri_ e
    obtain ⟨p, rfl, hp, z1⟩ := ra.rd_
    exact call_len_seq pins s σ H _ us Q I r0 ⟨_, _, rfl, .inl (sF.seq hp), by rw [List.length_map]; exact k.val sF (.int _)⟩
  · split at e
    · rename_i hz
      cases ri_ e; cases ra.str_
      exact call_len_str pins s σ H _ us Q I r0 ⟨_, rfl, hz, k.val sF (.int _)⟩
    · cases e
  · cases e
theorem c_abs : CallR X (.builtin "abs") (fun xs H Q => (∃ x, xs = [x]) ∧ RP X.K Cl .abs xs H Q) := by
  intro pins s σ H xs us Q I r0 h
  obtain ⟨⟨x, rfl⟩, F, ts, m, sF, r, e, k⟩ := h
  obtain ⟨a, rfl, ra⟩ := r.one
  have e : pAbs a = some m := e
  unfold pAbs at e
  split at e
  · cases ri_ e; cases ra.int_
    exact call_abs pins s σ H _ us Q I r0 ⟨_, rfl, k.val sF (.int _)⟩
  · cases e
theorem c_int : CallR X (.type "int") (fun xs H Q => (∃ x, xs = [x]) ∧ RP X.K Cl .int xs H Q) := by
  intro pins s σ H xs us Q I r0 h
  obtain ⟨⟨x, rfl⟩, F, ts, m, sF, r, e, k⟩ := h
  obtain ⟨a, rfl, ra⟩ := r.one
  have e : pInt a = some m := e
  unfold pInt at e
  split at e
  · cases ri_ e; cases ra.int_
    exact call_int1 pins s σ H _ us Q I r0 (.inl ⟨_, rfl, k.val sF (.int _)⟩)
  · cases ri_ e; cases ra.bl_
    exact call_int1 pins s σ H _ us Q I r0 (.inr ⟨_, rfl, k.val sF (.int _)⟩)
  · cases e
theorem c_sum (hc : X.calm = true) : CallR X (.builtin "sum") (fun xs H Q => (∃ x, xs = [x]) ∧ RP X.K Cl .sum xs H Q) := by
  intro pins s σ H xs us Q I r0 h
  obtain ⟨⟨x, rfl⟩, F, ts, m, sF, r, e, k⟩ := h
  obtain ⟨a, rfl, ra⟩ := r.one
  have e : pSum a = some m := e
  unfold pSum at e
  split at e
  · obtain ⟨ns, h1, e⟩ := bind_some e
    cases ri_ e
    obtain ⟨p, vs, rfl, hp, z1, r1⟩ := ra.lst_ sF
    cases r1.ofInts h1
    exact cr_sum hc pins s σ H _ us Q I r0 ⟨_, _, rfl, SqL.of hp, k.val sF (.int _)⟩
  · cases e
theorem c_max1 (hc : X.calm = true) : CallR X (.builtin "max") (fun xs H Q => (∃ x, xs = [x]) ∧ RP X.K Cl .max1 xs H Q) := by
  intro pins s σ H xs us Q I r0 h
  obtain ⟨⟨x, rfl⟩, F, ts, m, sF, r, e, k⟩ := h
  obtain ⟨a, rfl, ra⟩ := r.one
  have e : pMax1 a = some m := e
  unfold pMax1 at e
  split at e
  · obtain ⟨ns, h1, e⟩ := bind_some e
    split at e
    · rename_i hz
      cases ri_ e
      obtain ⟨p, vs, rfl, hp, z1, r1⟩ := ra.lst_ sF
      cases r1.ofInts h1
      refine cr_max hc pins s σ H _ us Q I r0 ⟨_, ns, rfl, SqL.of hp, hz, fun n hn hl => ?_⟩
      have e1 := hl _ (maxL_mem hz)
      have e2 := maxL_ge hn
      have : n = maxL ns := by omega
      rw [this]
      exact k.val sF (.int _)
    · cases e
  · cases e
mutual
theorem toD_inj : ∀ {x y : T} {d : PyData}, x.toD = some d → y.toD = some d → x = y
  | x, y, .none, h1, h2 => by
    cases x <;> cases y <;> first
      | rfl
      | (simp [T.toD] at h1 h2; done)
  | x, y, .bool b, h1, h2 => by
    cases x <;> cases y <;> first
      | (simp [T.toD] at h1 h2; done)
      | (simp [T.toD] at h1 h2; subst h1; subst h2; rfl)
  | x, y, .int b, h1, h2 => by
    cases x <;> cases y <;> first
      | (simp [T.toD] at h1 h2; done)
      | (simp [T.toD] at h1 h2; subst h1; subst h2; rfl)
  | x, y, .str b, h1, h2 => by
    cases x <;> cases y <;> first
      | (simp [T.toD] at h1 h2; done)
      | (simp [T.toD] at h1 h2; subst h1; subst h2; rfl)
  | x, y, .tuple ds, h1, h2 => by
    cases x <;> cases y <;> first
      | (simp [T.toD] at h1 h2; done)
      | (simp [T.toD] at h1 h2; rw [toDs_inj h1 h2])
  | x, y, .list ds, h1, h2 => by
    cases x <;> cases y <;> first
      | (simp [T.toD] at h1 h2; done)
      | (simp [T.toD] at h1 h2; rw [toDs_inj h1 h2])
  | x, y, .dict ds, h1, h2 => by
    cases x <;> (simp [T.toD] at h1; done)
termination_by x => sizeOf x
theorem toDs_inj : ∀ {xs ys : List T} {ds : List PyData}, T.toDs xs = some ds → T.toDs ys = some ds → xs = ys
  | [], [], _, _, _ => rfl
  | [], y :: ys, _, h1, h2 => by
    cases h1
    unfold T.toDs at h2
    split at h2 <;> cases h2
  | x :: xs, [], _, h1, h2 => by
    cases h2
    unfold T.toDs at h1
    split at h1 <;> cases h1
  | x :: xs, y :: ys, ds, h1, h2 => by
    unfold T.toDs at h1 h2
    split at h1
    · rename_i d es e1 e2
      cases h1
      split at h2
      · rename_i d' es' e3 e4
        cases h2
        rw [toD_inj e1 e3, toDs_inj e2 e4]
      · cases h2
    · cases h1
termination_by xs => sizeOf xs
end
theorem toDs_cons {x : T} {xs : List T} {ds : List PyData} (h : T.toDs (x :: xs) = some ds) : ∃ d es, ds = d :: es ∧ x.toD = some d ∧ T.toDs xs = some es := by
  unfold T.toDs at h
  split at h
  · rename_i d es e1 e2
    cases h
    exact ⟨d, es, rfl, e1, e2⟩
  · cases h
theorem toDs_at : ∀ {xs : List T} {ds : List PyData} {i : Nat} {x : T} {d : PyData}, T.toDs xs = some ds → xs[i]? = some x → ds[i]? = some d → x.toD = some d
  | [], _, _, _, _, _, h, _ => by simp at h
  | y :: ys, ds, i, x, d, h, h1, h2 => by
    obtain ⟨e, es, rfl, q1, q2⟩ := toDs_cons h
    cases i with
    | zero => simp at h1 h2; subst h1; subst h2; exact q1
    | succ i => exact toDs_at q2 (by simpa using h1) (by simpa using h2)
theorem minT_toD : ∀ {r : List T} {x : T} {d : PyData} {es : List PyData}, x.toD = some d → T.toDs r = some es → (minT x r).toD = some (PySem.W.minD d es)
  | [], x, d, es, h1, h2 => by cases h2; exact h1
  | y :: r, x, d, es, h1, h2 => by
    obtain ⟨e, es', rfl, q1, q2⟩ := toDs_cons h2
    show (minT (if lessT y x = true then y else x) r).toD = some (PySem.W.minD (if PySem.W.dataLt e d = true then e else d) es')
    have hl : lessT y x = PySem.W.dataLt e d := by unfold lessT; rw [q1, h1]
    rw [hl]
    by_cases hc : PySem.W.dataLt e d = true
    · rw [if_pos hc, if_pos hc]; exact minT_toD q1 q2
    · rw [if_neg hc, if_neg hc]; exact minT_toD h1 q2
theorem alikeL_ok {ds : List PyData} (h : alikeL ds = true) : PySem.W.AlikeAll ds := by
  unfold alikeL at h
  rw [Bool.and_eq_true, List.all_eq_true, List.all_eq_true] at h
  refine ⟨fun x hx y hy => List.all_eq_true.mp (h.1 x hx) y hy, fun x hx e => ?_⟩
  have := h.2 x hx
  rw [e] at this
  cases this
theorem c_min1 (hc : X.calm = true) (hu : X.A.units + 64 < cLine) : CallR X (.builtin "min") (fun xs H Q => (∃ x, xs = [x]) ∧ RP X.K Cl .min1 xs H Q) := by
  intro pins s σ H xs us Q I r0 h
  obtain ⟨⟨x, rfl⟩, F, ts, m, sF, r, e, k⟩ := h
  obtain ⟨a, rfl, ra⟩ := r.one
  have e : pMin1 a = some m := e
  unfold pMin1 at e
  cases a with
  | lst xs =>
    have e : (match intsT xs with | some ns => if 0 < ns.length then ri (minL ns) else none | none => minD1 xs) = some m := e
    split at e
    · rename_i ns h1
      split at e
      · rename_i hz
        cases ri_ e
        obtain ⟨p, vs, rfl, hp, z1, r1⟩ := ra.lst_ sF
        cases r1.ofInts h1
        refine cr_min hc pins s σ H _ us Q I r0 ⟨_, ns, rfl, SqL.of hp, hz, fun n hn hl => ?_⟩
        have e1 := hl _ (minL_mem hz)
        have e2 := minL_le hn
        have : n = minL ns := by omega
        rw [this]
        exact k.val sF (.int _)
      · cases e
    · cases xs with
      | nil => cases e
      | cons y ys =>
        have e : (match T.toDs (y :: ys) with | some ds => if alikeL ds = true ∧ PyData.depthAll ds ≤ 63 then some (mt (minT y ys)) else none | none => none) = some m := e
        split at e
        · rename_i ds hds
          split at e
          · rename_i hok
            cases e
            obtain ⟨d, es, rfl, q1, q2⟩ := toDs_cons hds
            obtain ⟨p, vs, rfl, hp, z1, r1⟩ := ra.lst_ sF
            refine cr_minD hc hu pins s σ H _ us Q I r0 ⟨p, vs, d, es, rfl, SqL.of hp, (r1.mono sF).data hds, alikeL_ok hok.1, hok.2, fun i x hx hd => ?_⟩
            obtain ⟨t, ht, rt⟩ := r1.getV hx
            have e1 := toDs_at hds ht hd
            have e2 := toD_inj e1 (minT_toD q1 q2)
            rw [← e2] at k
            exact k.val sF rt
          · cases e
        · cases e
  | _ => cases e
theorem c_max2 (hc : X.calm = true) : CallR X (.builtin "max") (fun xs H Q => (∃ x y, xs = [x, y]) ∧ RP X.K Cl .max2 xs H Q) := by
  intro pins s σ H xs us Q I r0 h
  obtain ⟨⟨x, y, rfl⟩, F, ts, m, sF, r, e, k⟩ := h
  obtain ⟨a, b, rfl, ra, rb⟩ := r.two
  have e : pMax2 a b = some m := e
  unfold pMax2 at e
  split at e
  · cases ri_ e; cases ra.int_; cases rb.int_
    exact call_max2 hc pins s σ H _ us Q I r0 ⟨_, _, rfl, k.val sF (.int _)⟩
  · cases e
theorem Rep1s.three {ts : List T} {x y z : V} (r : Rep1s K F H ts [x, y, z]) : ∃ t u w, ts = [t, u, w] ∧ Rep1 K F H t x ∧ Rep1 K F H u y ∧ Rep1 K F H w z := by
  cases r with
  | cons a b => cases b with
    | cons c d => cases d with
      | cons e f => cases f; exact ⟨_, _, _, rfl, a, c, e⟩
theorem nuMax3_int (a b c : Int) : nuMax3 (.int a) (.int b) (.int c) = some (.int (if c > (if b > a then b else a) then c else (if b > a then b else a))) := by
  show (Option.map (fun k => if k = true then V.int b else V.int a) (some (decide (a < b)))).bind (fun m => nuMax2 m (.int c)) = _
  by_cases h1 : a < b
  · rw [if_pos (show b > a from h1)]
    simp only [Option.map_some, Option.bind_some, decide_eq_true h1, if_true]
    show Option.map (fun k => if k = true then V.int c else V.int b) (some (decide (b < c))) = _
    by_cases h2 : b < c
    · rw [if_pos (show c > b from h2), decide_eq_true h2]; rfl
    · rw [if_neg (show ¬ c > b from h2), decide_eq_false h2]; rfl
  · rw [if_neg (show ¬ b > a from h1)]
    simp only [Option.map_some, Option.bind_some, decide_eq_false h1, Bool.false_eq_true, if_false]
    show Option.map (fun k => if k = true then V.int c else V.int a) (some (decide (a < c))) = _
    by_cases h2 : a < c
    · rw [if_pos (show c > a from h2), decide_eq_true h2]; rfl
    · rw [if_neg (show ¬ c > a from h2), decide_eq_false h2]; rfl
theorem c_max3 (hc : X.calm = true) : CallR X (.builtin "max") (fun xs H Q => (∃ x y z, xs = [x, y, z]) ∧ RP X.K Cl .max3 xs H Q) := by
  intro pins s σ H xs us Q I r0 h
  obtain ⟨⟨x, y, z, rfl⟩, F, ts, m, sF, r, e, k⟩ := h
  obtain ⟨a, b, c, rfl, ra, rb, rc⟩ := r.three
  have e : pMax3 a b c = some m := e
  unfold pMax3 at e
  split at e
  · cases ri_ e; cases ra.int_; cases rb.int_; cases rc.int_
    exact call_max3Nu hc pins s σ H _ us Q I r0 ⟨_, _, _, _, rfl, nuMax3_int _ _ _, k.val sF (.int _)⟩
  · cases e
theorem c_min2 (hc : X.calm = true) : CallR X (.builtin "min") (fun xs H Q => (∃ x y, xs = [x, y]) ∧ RP X.K Cl .min2 xs H Q) := by
  intro pins s σ H xs us Q I r0 h
  obtain ⟨⟨x, y, rfl⟩, F, ts, m, sF, r, e, k⟩ := h
  obtain ⟨a, b, rfl, ra, rb⟩ := r.two
  have e : pMin2 a b = some m := e
  unfold pMin2 at e
  split at e
  · cases ri_ e; cases ra.int_; cases rb.int_
    exact call_min2 hc pins s σ H _ us Q I r0 ⟨_, _, rfl, k.val sF (.int _)⟩
  · cases e
theorem c_sorted : CallR X (.builtin "sorted") (fun xs H Q => (∃ x, xs = [x]) ∧ RP X.K Cl .sorted xs H Q) := by
  intro pins s σ H xs us Q I r0 h
  obtain ⟨⟨x, rfl⟩, F, ts, m, sF, r, e, k⟩ := h
  obtain ⟨a, rfl, ra⟩ := r.one
  have e : pSorted a = some m := e
  unfold pSorted at e
  split at e
  · obtain ⟨ns, h1, e⟩ := bind_some e
    split at e
    · rename_i hz
      cases e
      obtain ⟨p, vs, rfl, hp, z1, r1⟩ := ra.lst_ sF
      cases r1.ofInts h1
      refine cr_sorted pins s σ H _ us Q I r0 ⟨_, ns, rfl, SqL.of hp, hz, fun ns' d hperm hs hd => ?_⟩
      have : ns' = sortI ns := PySem.W.ksm_same (hperm.trans (sortI_perm ns).symm) hs (sortI_sorted ns)
      rw [this]
      refine k.newL sF hd (RepTs.ints _) ?_
      rw [List.length_map, (sortI_perm ns).length_eq]
      exact small64 hz
    · cases e
  · cases e
theorem c_all (hc : X.calm = true) : CallR X (.builtin "all") (fun xs H Q => (∃ x, xs = [x]) ∧ RP X.K Cl .all xs H Q) := by
  intro pins s σ H xs us Q I r0 h
  obtain ⟨⟨x, rfl⟩, F, ts, m, sF, r, e, k⟩ := h
  obtain ⟨a, rfl, ra⟩ := r.one
  have e : pAll a = some m := e
  unfold pAll at e
  split at e
  · obtain ⟨ns, h1, e⟩ := bind_some e
    cases rb_ e
    obtain ⟨p, vs, rfl, hp, z1, r1⟩ := ra.lst_ sF
    cases r1.ofBls h1
    exact cr_all hc pins s σ H _ us Q I r0 ⟨_, _, rfl, SqL.of hp, k.val sF (.bl _)⟩
  · cases e
theorem c_any (hc : X.calm = true) : CallR X (.builtin "any") (fun xs H Q => (∃ x, xs = [x]) ∧ RP X.K Cl .any xs H Q) := by
  intro pins s σ H xs us Q I r0 h
  obtain ⟨⟨x, rfl⟩, F, ts, m, sF, r, e, k⟩ := h
  obtain ⟨a, rfl, ra⟩ := r.one
  have e : pAny a = some m := e
  unfold pAny at e
  split at e
  · obtain ⟨ns, h1, e⟩ := bind_some e
    cases rb_ e
    obtain ⟨p, vs, rfl, hp, z1, r1⟩ := ra.lst_ sF
    cases r1.ofBls h1
    exact cr_any hc pins s σ H _ us Q I r0 ⟨_, _, rfl, SqL.of hp, k.val sF (.bl _)⟩
  · cases e
theorem cr_listS (hc : X.calm = true) : CallR X (.type "list") (fun xs H Q => ∃ z : Str, xs = [V.str z] ∧ z.cps.size ≤ sizeLine ∧ ∀ p, H p = none → Q (.ref p) (upd H p (.lst (z.cps.toList.map fun c => V.str ⟨#[c]⟩)))) := by
  intro pins s σ H xs us Q I r0 h
  obtain ⟨z, rfl, hz, q⟩ := h
  have rv : ∃ v, us = [v] ∧ RelV (V.str z) v := by
    cases r0 with
    | cons a b => cases b; exact ⟨_, rfl, a⟩
  obtain ⟨v, rfl, t, rfl⟩ := rv
  refine call_list_str (I.ok.hd hc) z t (fun h' tk acc c hk ho hi => ?_) hz
  have e1 : acc.toList.length = z.cps.toList.length := by rw [Array.length_toList, Array.length_toList]; exact hi.1
  have rr : Vals (z.cps.toList.map fun c => V.str ⟨#[c]⟩) acc.toList := by
    refine L2.vals_of_at (by rw [List.length_map]; exact e1.symm) fun j x u hx hu => ?_
    rw [Array.getElem?_toList] at hu
    obtain ⟨d, w, hd, rfl⟩ := hi.2 j u hu
    rw [List.getElem?_map, Array.getElem?_toList, hd] at hx
    cases hx
    exact ⟨_, rfl⟩
  refine ⟨.ref s.heap.objs.size, upd H s.heap.objs.size (.lst (z.cps.toList.map fun c => V.str ⟨#[c]⟩)), I.laid hk (Nat.le_refl _) (show ObjOk X.prog X.w _ _ _ (.lst _) from ⟨?_, acc.toList, c, rr, ?_⟩), rfl, q _ (I.hok.fresh (Nat.le_refl _))⟩
  · rw [List.length_map, Array.length_toList]; exact hz
  · rw [Array.toArray_toList]; exact ho
theorem chars_rep {F : Hp} (z : Str) : RepTs X.K F (chars z) (z.cps.toList.map fun c => V.str ⟨#[c]⟩) := by
  unfold chars
  induction z.cps.toList with
  | nil => exact .nil
  | cons c cs ih => exact .cons (.str _) ih
theorem c_list (hc : X.calm = true) : CallR X (.type "list") (fun xs H Q => (∃ x, xs = [x]) ∧ RP X.K Cl .list xs H Q) := by
  intro pins s σ H xs us Q I r0 h
  obtain ⟨⟨x, rfl⟩, F, ts, m, sF, r, e, k⟩ := h
  obtain ⟨a, rfl, ra⟩ := r.one
  have e : pList a = some m := e
  unfold pList at e
  split at e
  · cases e
    obtain ⟨p, vs, rfl, hp, z1, r1⟩ := ra.lst_ sF
    exact call_list_of pins s σ H _ us Q I r0 ⟨_, _, rfl, .inl (SqL.of hp), fun d hd => k.newL sF hd r1 z1⟩
  · cases e
    obtain ⟨p, vs, rfl, hp, z1, r1⟩ := ra.tup_
    exact call_list_of pins s σ H _ us Q I r0 ⟨_, _, rfl, .inr (sqT_mono sF hp), fun d hd => k.newL sF hd r1 z1⟩
  · cases e
    obtain ⟨p, rfl, hp, z1⟩ := ra.rd_
    exact call_list_of pins s σ H _ us Q I r0 ⟨_, _, rfl, .inl (sF.seq hp), fun d hd => k.newL sF hd (RepTs.ints _) (by rw [List.length_map]; exact z1)⟩
  · split at e
    · rename_i hz
      cases e
      cases ra.str_
      exact cr_listS hc pins s σ H _ us Q I r0 ⟨_, rfl, hz, fun d hd => k.newL sF hd (chars_rep _) (by rw [List.length_map, Array.length_toList]; exact hz)⟩
    · cases e
  · cases e
theorem c_tuple : CallR X (.type "tuple") (fun xs H Q => (∃ x, xs = [x]) ∧ RP X.K Cl .tuple xs H Q) := by
  intro pins s σ H xs us Q I r0 h
  obtain ⟨⟨x, rfl⟩, F, ts, m, sF, r, e, k⟩ := h
  obtain ⟨a, rfl, ra⟩ := r.one
  have e : pTuple a = some m := e
  unfold pTuple at e
  split at e
  · cases e
    obtain ⟨p, vs, rfl, hp, z1, r1⟩ := ra.lst_ sF
    exact call_tuple_of pins s σ H _ us Q I r0 ⟨_, _, rfl, .inl ⟨SqL.of hp, fun d hd => k.newT sF hd r1 z1⟩⟩
  · cases e
    obtain ⟨p, vs, rfl, hp, z1, r1⟩ := ra.tup_
    exact call_tuple_of pins s σ H _ us Q I r0 ⟨_, _, rfl, .inr ⟨sqT_mono sF hp, k.val sF (.tup hp z1 r1)⟩⟩
  · cases e
/-- slices -/
theorem q_slice : SlR X (fun x lo hi H Q => ∃ F t m, Same F H ∧ Rep1 X.K F H t x ∧ pSlice t lo hi = some m ∧ Ans X.K Cl F H m Q) := by
  intro pins s σ H x v vl vu lo hi sl Q I rx hs pl pu ⟨F, t, m, sF, r, e, k⟩
  unfold pSlice at e
  split at e
  · cases e
    obtain ⟨p, vs, rfl, hp, z1, r1⟩ := r.lst_ sF
    exact sl_list pins s σ H _ v vl vu lo hi sl Q I rx hs pl pu ⟨_, _, rfl, SqL.of hp, fun d hd => k.newL sF hd (r1.cut lo hi) (Nat.le_trans (cutV_length _ _ _) z1)⟩
  · cases e
    rename_i ns
    obtain ⟨p, rfl, hp, z1⟩ := r.rd_
    refine sl_list pins s σ H _ v vl vu lo hi sl Q I rx hs pl pu ⟨_, _, rfl, sF.seq hp, fun d hd => k.newL sF hd ?_ (Nat.le_trans (cutV_length _ _ _) (by rw [List.length_map]; exact z1))⟩
    have e1 : (cutT ns lo hi).map T.int = cutT (ns.map T.int) lo hi := by
      unfold cutT
      rw [List.length_map, List.map_take, List.map_drop]
    rw [e1]
    exact (RepTs.ints ns).cut lo hi
  · cases e
    obtain ⟨p, vs, rfl, hp, z1, r1⟩ := r.tup_
    refine sl_tupA pins s σ H _ v vl vu lo hi sl Q I rx hs pl pu ⟨_, _, rfl, sqT_mono sF hp, fun h => ?_, fun _ d hd => k.newT sF hd (r1.cut lo hi) (Nat.le_trans (cutV_length _ _ _) z1)⟩
    rename_i ts
    have e1 : cutT ts lo hi = ts := by
      unfold cutT
      rw [r1.length, h.1, h.2, List.drop_zero, Nat.sub_zero, ← r1.length, List.take_length]
    rw [e1] at k
    exact k.val sF (.tup hp z1 r1)
  · cases e
/-- truth -/
theorem tru_run {K : PySem.W.Frag} {F H : Hp} {t : T} {x : V} {b : Bool} (sF : Same F H) (r : Rep1 K F H t x) (e : tru t = some b) : TruV K x H b := by
  have em : ∀ {ts : List T} {vs : List V}, RepTs K F ts vs → (!ts.isEmpty) = !vs.isEmpty := fun r => by cases r <;> rfl
  have ek : ∀ {ts : List (Key × T)} {vs : List (Key × V)}, RepK K F ts vs → (!ts.isEmpty) = !vs.isEmpty := fun r => by cases r <;> rfl
  unfold tru at e
  split at e
  · cases e; cases r.non_; exact rfl
  · cases e; cases r.bl_; exact rfl
  · cases e; cases r.int_; exact rfl
  · split at e
    · rename_i hz
      cases e; cases r.str_; exact ⟨hz, rfl⟩
    · cases e
  · cases e
    obtain ⟨p, vs, rfl, hp, z1, r1⟩ := r.tup_
    exact .inr (.inl ⟨_, sqT_mono sF hp, em r1⟩)
  · cases e
    obtain ⟨p, vs, rfl, hp, z1, r1⟩ := r.lst_ sF
    exact .inl ⟨_, SqL.of hp, em r1⟩
  · cases e
    rename_i ns
    obtain ⟨p, rfl, hp, z1⟩ := r.rd_
    exact .inl ⟨_, sF.seq hp, by cases ns <;> rfl⟩
  · cases e
    cases r with
    | fz r => cases r with | dK h z q => exact .inr (.inr ⟨_, sF _ _ h, ek q⟩)
    | dk h z q => exact .inr (.inr ⟨_, h, ek q⟩)
  · cases e
/-! isinstance -/
def Ty.val : Ty → String
  | .int => "int" | .bool => "bool" | .str => "str" | .list => "list" | .tuple => "tuple" | .none => "NoneType"
theorem tyX_of {K : PySem.W.Frag} {F H : Hp} {t : T} {x : V} {c : Ty} (sF : Same F H) (r : Rep1 K F H t x) (e : tyOf t = some c) : TyX K H x (.type c.val) := by
  unfold tyOf at e
  split at e
  · cases e; cases r.non_; exact .base .non
  · cases e; cases r.bl_; exact .base (.bl _)
  · cases e; cases r.int_; exact .base (.int _)
  · cases e; cases r.str_; exact .base (.str _)
  · cases e
    obtain ⟨p, vs, rfl, hp, z1, r1⟩ := r.tup_
    rcases sqT_mono sF hp with h | ⟨o, its, n, h, hc, _⟩
    · rcases h with h | ⟨o, h⟩
      · exact .base (.tup h)
      · exact .fTuple h
    · exact .kTuple h hc
  · cases e
    obtain ⟨p, vs, rfl, hp, z1, r1⟩ := r.lst_ sF
    exact .base (.lst hp)
  · cases e
theorem kit_one {K : PySem.W.Frag} (t c : Ty) : PySem.W.kitOne K (.type t.val) (.type c.val) = some (t.isA c) := by
  cases t <;> cases c <;> exact kit_ty (by decide +kernel)
theorem kit_any {K : PySem.W.Frag} (t : Ty) : ∀ cs : List Ty, PySem.W.kitAny K (.type t.val) (cs.map fun c => .type c.val) = some (cs.any (t.isA ·)) := by
  intro cs
  induction cs with
  | nil => rfl
  | cons c r ih =>
    rw [List.map_cons, PySem.W.kitAny, kit_one, ih, List.any_cons]
    cases t.isA c <;> rfl
end
end Mk
/-! Mk: the readings of the language's runs; their parts. -/
namespace Mk
open PySem L2
theorem _root_.L2.PE.imp {X : Cx} {e : Expr} {t t' : TE} (h : PE X e t) (w : ∀ σ H Q, t' σ H Q → t σ H Q) : PE X e t' := ⟨fun pins s σ H Q I q => h.run pins s σ H Q I (w σ H Q q)⟩
theorem _root_.L2.PT.imp {X : Cx} {e : Expr} {t t' : TT} (h : PT X e t) (w : ∀ σ H Q, t' σ H Q → t σ H Q) : PT X e t' := ⟨fun pins s σ H Q I q => h.run pins s σ H Q I (w σ H Q q)⟩
theorem _root_.L2.PW.imp {X : Cx} {e : Expr} {t t' : TT} (h : PW X e t) (w : ∀ σ H Q, t' σ H Q → t σ H Q) : PW X e t' := ⟨fun wh pins s σ H Q I q => h.run wh pins s σ H Q I (w σ H Q q)⟩
theorem _root_.L2.PA.imp {X : Cx} {es : List Expr} {t t' : TA} (h : PA X es t) (w : ∀ σ H Q, t' σ H Q → t σ H Q) : PA X es t' := ⟨fun pos pins s σ H Q I q => h.run pos pins s σ H Q I (w σ H Q q)⟩
theorem _root_.L2.PS.imp {X : Cx} {st : Stmt} {t t' : TS} (h : PS X st t) (w : ∀ D σ H, t' D σ H → t D σ H) : PS X st t' := ⟨fun pins s σ H D I q => h.run pins s σ H D I (w D σ H q)⟩
theorem _root_.L2.PSs.imp {X : Cx} {st : List Stmt} {t t' : TS} (h : PSs X st t) (w : ∀ D σ H, t' D σ H → t D σ H) : PSs X st t' := ⟨fun pins s σ H D I q => h.run pins s σ H D I (w D σ H q)⟩
theorem _root_.L2.PI.imp {X : Cx} {tg e : Expr} {t t' : TI} (h : PI X tg e t) (w : ∀ σ H Q, t' σ H Q → t σ H Q) : PI X tg e t' := ⟨fun pins s σ H Q I q => h.run pins s σ H Q I (w σ H Q q)⟩
theorem _root_.L2.PG.imp {X : Cx} {e : Expr} {t t' : TG} (h : PG X e t) (w : ∀ v σ H Q, t' v σ H Q → t v σ H Q) : PG X e t' := ⟨fun pins s σ H v u Q I r q => h.run pins s σ H v u Q I r (w v σ H Q q)⟩
theorem _root_.L2.PO.imp {X : Cx} {e : Option Expr} {t t' : TO} (h : PO X e t) (w : ∀ σ H Q, t' σ H Q → t σ H Q) : PO X e t' := ⟨fun pins s σ H Q I q => h.run pins s σ H Q I (w σ H Q q)⟩

def updA (As : Nat → AS) (i : Nat) (A : AS) : Nat → AS := fun j => if j = i then A else As j
theorem updA_same {As : Nat → AS} {i : Nat} {A : AS} : updA As i A i = A := by unfold updA; rw [if_pos rfl]
theorem updA_ne {As : Nat → AS} {i j : Nat} {A : AS} (h : j ≠ i) : updA As i A j = As j := by unfold updA; rw [if_neg h]
section
variable {K : PySem.W.Frag} {Cl : Nat → Option ClsI} {F H : Hp} {ρ : Slots} {σ : St} {As : Nat → AS}
/-- a slot gets a content that stands at the slot's own value -/
theorem Good.set (g : Good K Cl ρ σ F As H) {i : Nat} {m : M} {v : V} {A : AS} (hi : i < ρ.length) (e : σ[i]? = some (some v)) (r : RepM K Cl F H m v A) (d : ∀ j a, j ≠ i → A a → ¬ As j a) :
    Good K Cl (ρ.set i (some m)) σ F (updA As i A) H := by
  refine ⟨g.same, fun j m' e' => ?_, fun j h => ?_, fun j k a hne h1 h2 => ?_, by rw [List.length_set]; exact g.len⟩
  · by_cases hj : j = i
    · subst hj
      rw [List.getElem?_set_self hi] at e'; cases e'
      exact ⟨v, e, by rw [updA_same]; exact r⟩
    · rw [List.getElem?_set_ne (Ne.symm hj)] at e'
      obtain ⟨v', h1, h2⟩ := g.rep j m' e'
      exact ⟨v', h1, by rw [updA_ne hj]; exact h2⟩
  · by_cases hj : j = i
    · subst hj
      exact absurd (List.getElem?_set_self hi) (h m)
    · rw [updA_ne hj]
      exact g.out j fun m' e' => h m' (by rw [List.getElem?_set_ne (Ne.symm hj)]; exact e')
  · by_cases hj : j = i
    · subst hj
      rw [updA_same] at h1; rw [updA_ne (Ne.symm hne)] at h2
      exact d k a (Ne.symm hne) h1 h2
    · rw [updA_ne hj] at h1
      by_cases hk : k = i
      · subst hk
        rw [updA_same] at h2
        exact d j a hj h2 h1
      · rw [updA_ne hk] at h2
        exact g.dis j k a hne h1 h2
/-- a name gets a value -/
theorem Good.store (g : Good K Cl ρ σ F As H) {i : Nat} {m : M} {v : V} {A : AS} (hi : i < ρ.length) (r : RepM K Cl F H m v A) (d : ∀ j a, j ≠ i → A a → ¬ As j a) :
    Good K Cl (ρ.set i (some m)) (σ.set i (some v)) F (updA As i A) H := by
  have hi' : i < σ.length := by rw [← g.len]; exact hi
  refine ⟨g.same, fun j m' e' => ?_, fun j h => ?_, fun j k a hne h1 h2 => ?_, by rw [List.length_set, List.length_set]; exact g.len⟩
  · by_cases hj : j = i
    · subst hj
      rw [List.getElem?_set_self hi] at e'; cases e'
      exact ⟨v, List.getElem?_set_self hi', by rw [updA_same]; exact r⟩
    · rw [List.getElem?_set_ne (Ne.symm hj)] at e'
      obtain ⟨v', h1, h2⟩ := g.rep j m' e'
      exact ⟨v', by rw [List.getElem?_set_ne (Ne.symm hj)]; exact h1, by rw [updA_ne hj]; exact h2⟩
  · by_cases hj : j = i
    · subst hj
      exact absurd (List.getElem?_set_self hi) (h m)
    · rw [updA_ne hj]
      exact g.out j fun m' e' => h m' (by rw [List.getElem?_set_ne (Ne.symm hj)]; exact e')
  · by_cases hj : j = i
    · subst hj
      rw [updA_same] at h1; rw [updA_ne (Ne.symm hne)] at h2
      exact d k a (Ne.symm hne) h1 h2
    · rw [updA_ne hj] at h1
      by_cases hk : k = i
      · subst hk
        rw [updA_same] at h2
        exact d j a hj h2 h1
      · rw [updA_ne hk] at h2
        exact g.dis j k a hne h1 h2
theorem Good.clr (g : Good K Cl ρ σ F As H) (i : Nat) : Good K Cl (ρ.set i none) σ F (updA As i non) H := by
  refine ⟨g.same, fun j m' e' => ?_, fun j h => ?_, fun j k a hne h1 h2 => ?_, by rw [List.length_set]; exact g.len⟩
  · by_cases hj : j = i
    · subst hj
      by_cases hl : j < ρ.length
      · rw [List.getElem?_set_self hl] at e'; cases e'
      · rw [List.getElem?_eq_none (by rw [List.length_set]; omega)] at e'; cases e'
    · rw [List.getElem?_set_ne (Ne.symm hj)] at e'
      obtain ⟨v', h1, h2⟩ := g.rep j m' e'
      exact ⟨v', h1, by rw [updA_ne hj]; exact h2⟩
  · by_cases hj : j = i
    · subst hj; rw [updA_same]; exact fun _ h => h
    · rw [updA_ne hj]
      exact g.out j fun m' e' => h m' (by rw [List.getElem?_set_ne (Ne.symm hj)]; exact e')
  · by_cases hj : j = i
    · subst hj; rw [updA_same] at h1; exact h1
    · rw [updA_ne hj] at h1
      by_cases hk : k = i
      · subst hk; rw [updA_same] at h2; exact h2
      · rw [updA_ne hk] at h2; exact g.dis j k a hne h1 h2
theorem own_upd {i : Nat} {A : AS} : ∀ b, Own (updA As i A) b → Own As b ∨ A b := fun b ⟨j, h⟩ => by
  by_cases hj : j = i
  · subst hj; rw [updA_same] at h; exact .inr h
  · rw [updA_ne hj] at h; exact .inl ⟨j, h⟩
theorem Good.lt (g : Good K Cl ρ σ F As H) {i : Nat} {m : M} (e : ρ[i]? = some (some m)) : i < ρ.length := (List.getElem?_eq_some_iff.mp e).1
theorem Good.apart (g : Good K Cl ρ σ F As H) (i : Nat) : ∀ a, As i a → ¬ Own (updA As i non) a := fun a h ⟨j, q⟩ => by
  by_cases hj : j = i
  · subst hj; rw [updA_same] at q; exact q
  · rw [updA_ne hj] at q; exact g.dis i j a (Ne.symm hj) h q
/-- a slot's content is frozen where it stands -/
theorem Good.frzAt (g : Good K Cl ρ σ F As H) {i : Nat} {x : B} (e : ρ[i]? = some (some (.bx x))) : ∃ v, σ[i]? = some (some v) ∧
    Good K Cl (ρ.set i (some (mt x.frz))) σ (addF F H (As i)) (updA As i non) H ∧ Step true F (Own As) H (addF F H (As i)) (Own (updA As i non)) H ∧ RepT K (addF F H (As i)) x.frz v := by
  obtain ⟨v, ev, r⟩ := g.rep i _ e
  have r' : RepB K F H x v (As i) := r
  have fr : ∀ a, As i a → F a = none := fun a h => (g.own h).1
  have g2 := (g.clr i).freeze (A := As i) fr (g.apart i)
  have hl := g.lt e
  have g3 := g2.set (i := i) (m := mt x.frz) (v := v) (A := non) (by rw [List.length_set]; exact hl) ev ⟨fun _ h => h, r'.frz⟩ (fun _ _ _ h => h.elim)
  rw [List.set_set] at g3
  have ee : updA (updA As i non) i non = updA As i non := by
    funext j
    by_cases hj : j = i
    · subst hj; rw [updA_same, updA_same]
    · rw [updA_ne hj]
  rw [ee] at g3
  refine ⟨v, ev, g3, (step_freeze (S := Own (updA As i non)) (A := As i) fr).more fun b h => ?_, r'.frz⟩
  rcases h with h | h
  · rcases own_upd b h with q | q
    · exact q
    · exact q.elim
  · exact ⟨i, h⟩

/-! ### the readings -/
def tE (K : PySem.W.Frag) (Cl : Nat → Option ClsI) (pu : Bool) (f : Slots → Option (M × Slots)) : TE := fun σ H Q => ∃ ρ F As m ρ', f ρ = some (m, ρ') ∧ Good K Cl ρ σ F As H ∧
  ∀ v F' As' A H', Step pu F (Own As) H F' ((Own As').or A) H' → Good K Cl ρ' σ F' As' H' → RepM K Cl F' H' m v A → (∀ a, A a → ¬ Own As' a) → Q v H'
/-- kept -/
def tF (K : PySem.W.Frag) (Cl : Nat → Option ClsI) (pu : Bool) (f : Slots → Option (T × Slots)) : TE := fun σ H Q => ∃ ρ F As t ρ', f ρ = some (t, ρ') ∧ Good K Cl ρ σ F As H ∧
  ∀ v F' As' H', Step pu F (Own As) H F' (Own As') H' → Good K Cl ρ' σ F' As' H' → RepT K F' t v → Q v H'
/-- read -/
def tV (K : PySem.W.Frag) (Cl : Nat → Option ClsI) (pu : Bool) (sl : Option Nat) (f : Slots → Option (M × Slots)) : TE := fun σ H Q => ∃ ρ F As t ρ', v1 sl f ρ = some (t, ρ') ∧ Good K Cl ρ σ F As H ∧
  ∀ v F' As' H', Step pu F (Own As) H F' (Own As') H' → Good K Cl ρ' σ F' As' H' → Rep1 K F' H' t v → (ownedAt sl ρ = false → RepT K F' t v) → Q v H'
def tA (K : PySem.W.Frag) (Cl : Nat → Option ClsI) (pu : Bool) (f : Slots → Option (List T × Slots)) : TA := fun σ H Q => ∃ ρ F As ts ρ', f ρ = some (ts, ρ') ∧ Good K Cl ρ σ F As H ∧
  ∀ vs F' As' H', Step pu F (Own As) H F' (Own As') H' → Good K Cl ρ' σ F' As' H' → Rep1s K F' H' ts vs → Q vs H'
def tAf (K : PySem.W.Frag) (Cl : Nat → Option ClsI) (f : Slots → Option (List T × Slots)) : TA := fun σ H Q => ∃ ρ F As ts ρ', f ρ = some (ts, ρ') ∧ Good K Cl ρ σ F As H ∧
  ∀ vs F' As' H', Step false F (Own As) H F' (Own As') H' → Good K Cl ρ' σ F' As' H' → RepTs K F' ts vs → Q vs H'
def tCd (K : PySem.W.Frag) (Cl : Nat → Option ClsI) (f : Slots → Option (Bool × Slots)) : TT := fun σ H Q => ∃ ρ F As b ρ', f ρ = some (b, ρ') ∧ Good K Cl ρ σ F As H ∧
  ∀ F' As' H', Step false F (Own As) H F' (Own As') H' → Good K Cl ρ' σ F' As' H' → Q b H'

/-- freezing an answer -/
theorem tE_F {pu : Bool} {f : Slots → Option (M × Slots)} {Q : VK} (h : tF K Cl pu (fun ρ => f1 (f ρ)) σ H Q) : tE K Cl pu f σ H Q := by
  obtain ⟨ρ, F, As, t, ρ', e, g, k⟩ := h
  obtain ⟨m, ρ1, e1, e⟩ := bnd_some e
  obtain ⟨t', e2, e⟩ := obd_some e
  cases e
  refine ⟨ρ, F, As, m, ρ', e1, g, fun v F' As' A H' st g' r d => ?_⟩
  have fr : ∀ a, A a → F' a = none := fun a ha => (r.own a ha).1
  refine k v (addF F' H' A) As' H' ((st.trans (step_freeze (S := Own As') fr)).weak fun h => ?_) (g'.freeze fr d) (r.frz e2)
  rw [h]; rfl
theorem _root_.L2.PE.kept {X : Cx} {e : Expr} {pu : Bool} {f : Slots → Option (M × Slots)} (h : PE X e (tE X.K Cl pu f)) : PE X e (tF X.K Cl pu fun ρ => f1 (f ρ)) := h.imp fun _ _ _ q => tE_F q
theorem tF_pu {p q : Bool} {f : Slots → Option (T × Slots)} {Q : VK} (hp : p = true → q = true) (h : tF K Cl p f σ H Q) : tF K Cl q f σ H Q := by
  obtain ⟨ρ, F, As, t, ρ', e, g, k⟩ := h
  exact ⟨ρ, F, As, t, ρ', e, g, fun v F' As' H' st => k v F' As' H' (st.weak hp)⟩
theorem tE_pu {p q : Bool} {f : Slots → Option (M × Slots)} {Q : VK} (hp : p = true → q = true) (h : tE K Cl p f σ H Q) : tE K Cl q f σ H Q := by
  obtain ⟨ρ, F, As, t, ρ', e, g, k⟩ := h
  exact ⟨ρ, F, As, t, ρ', e, g, fun v F' As' A H' st => k v F' As' A H' (st.weak hp)⟩
theorem _root_.L2.PE.keptN {X : Cx} {e : Expr} {pu : Bool} {f : Slots → Option (M × Slots)} (h : PE X e (tE X.K Cl pu f)) : PE X e (tF X.K Cl false fun ρ => f1 (f ρ)) := h.kept.imp fun _ _ _ q => tF_pu (p := false) (fun z => by cases z) q
/-- a slot that is only read -/
theorem _root_.L2.PE.readS {X : Cx} {i : Nat} {x : Str} {pos : Pos} {pu : Bool} {f : Slots → Option (M × Slots)} (h : PE X (.Name x pos) (tVar i)) : PE X (.Name x pos) (tV X.K Cl pu (some i) f) := h.imp fun σ H Q q => by
  obtain ⟨ρ, F, As, t, ρ', e, g, k⟩ := q
  have e : (match ρ[i]? with | some (some (.bx x)) => some (x.frz, ρ) | _ => none) = some (t, ρ') := e
  split at e
  · rename_i x q
    cases e
    obtain ⟨v, ev, r⟩ := g.rep i _ q
    have r' : RepB X.K F H x v (As i) := r
    refine ⟨v, ev, k v F As H Step.refl g (Rep1.of r') fun ho => ?_⟩
    unfold ownedAt at ho
    simp only [q] at ho
    cases x with
    | fz t => exact r'.2
    | ls _ => cases ho
    | dk _ => cases ho
    | dt _ => cases ho
  · cases e
theorem _root_.L2.PE.readE {X : Cx} {e : Expr} {pu : Bool} {f : Slots → Option (M × Slots)} (h : PE X e (tE X.K Cl pu f)) : PE X e (tV X.K Cl pu none f) := h.kept.imp fun σ H Q q => by
  obtain ⟨ρ, F, As, t, ρ', e, g, k⟩ := q
  exact ⟨ρ, F, As, t, ρ', e, g, fun v F' As' H' st g' r => k v F' As' H' st g' (.fz r) fun _ => r⟩

/-! ### argument lists that are read -/
theorem evs_nil {G : Gc} {Qs : List V → Hp → Prop} {pu : Bool} (h : tA K Cl pu (evs G .nil) σ H Qs) : Qs [] H := by
  obtain ⟨ρ, F, As, ts, ρ', e, g, k⟩ := h
  cases e
  exact k [] F As H Step.refl g .nil
theorem evs_cons {G : Gc} {e : E} {es : Es} {Qs : List V → Hp → Prop} (h : tA K Cl (e.vs && es.vs) (evs G (.cons e es)) σ H Qs) :
    tV K Cl e.vs e.slot? (ev G e) σ H fun x H1 => tA K Cl es.vs (evs G es) σ H1 fun xs H2 => Qs (x :: xs) H2 := by
  obtain ⟨ρ, F, As, ts, ρ', e1, g, k⟩ := h
  unfold evs at e1
  cases hs : e.slot? with
  | some i =>
    simp only [hs] at e1
    split at e1
    · rename_i t q
      obtain ⟨us, ρ2, e2, e1⟩ := bnd_some e1
      cases e1
      refine ⟨ρ, F, As, t, ρ, by unfold v1; simp only [q]; rfl, g, fun v F1 As1 H1 st1 g1 r1 r1' => ?_⟩
      have rv := r1' (by unfold ownedAt; simp only [q])
      refine ⟨ρ, F1, As1, us, ρ', e2, g1, fun vs F2 As2 H2 st2 g2 r2 => ?_⟩
      exact k _ F2 As2 H2 (st1.trans st2) g2 (.cons (.fz (rv.mono st2.hf)) r2)
    · rename_i x hn q
      split at e1
      · rename_i hv
        obtain ⟨us, ρ2, e2, e1⟩ := bnd_some e1
        cases e1
        refine ⟨ρ, F, As, x.frz, ρ, by unfold v1; simp only [q], g, fun v F1 As1 H1 st1 g1 r1 _ => ?_⟩
        refine ⟨ρ, F1, As1, us, ρ', e2, g1, fun vs F2 As2 H2 st2 g2 r2 => ?_⟩
        exact k _ F2 As2 H2 (st1.trans st2) g2 (.cons (r1.mono st2.hf (st2.pur hv)) r2)
      · cases e1
    · cases e1
  | none =>
    simp only [hs] at e1
    obtain ⟨m, ρ1, e2, e1⟩ := bnd_some e1
    obtain ⟨t, e3, e1⟩ := obd_some e1
    obtain ⟨us, ρ2, e4, e1⟩ := bnd_some e1
    cases e1
    refine ⟨ρ, F, As, t, ρ1, by unfold v1; simp only [e2, bnd_ok, e3, obd_ok], g, fun v F1 As1 H1 st1 g1 r1 r1' => ?_⟩
    have rv := r1' rfl
    refine ⟨ρ1, F1, As1, us, ρ', e4, g1, fun vs F2 As2 H2 st2 g2 r2 => ?_⟩
    exact k _ F2 As2 H2 (st1.trans st2) g2 (.cons (.fz (rv.mono st2.hf)) r2)
/-! .. that are kept -/
theorem evf_nil {G : Gc} {Qs : List V → Hp → Prop} (h : tAf K Cl (evf G .nil) σ H Qs) : Qs [] H := by
  obtain ⟨ρ, F, As, ts, ρ', e, g, k⟩ := h
  cases e
  exact k [] F As H Step.refl g .nil
theorem evf_cons {G : Gc} {e : E} {es : Es} {Qs : List V → Hp → Prop} (h : tAf K Cl (evf G (.cons e es)) σ H Qs) :
    tF K Cl false (fun ρ => f1 (ev G e ρ)) σ H fun x H1 => tAf K Cl (evf G es) σ H1 fun xs H2 => Qs (x :: xs) H2 := by
  obtain ⟨ρ, F, As, ts, ρ', e1, g, k⟩ := h
  unfold evf at e1
  obtain ⟨m, ρ1, e2, e1⟩ := bnd_some e1
  obtain ⟨t, e3, e1⟩ := obd_some e1
  obtain ⟨us, ρ2, e4, e1⟩ := bnd_some e1
  cases e1
  refine ⟨ρ, F, As, t, ρ1, by unfold f1; simp only [e2, bnd_ok, e3, obd_ok], g, fun v F1 As1 H1 st1 g1 r1 => ?_⟩
  refine ⟨ρ1, F1, As1, us, ρ', e4, g1, fun vs F2 As2 H2 st2 g2 r2 => ?_⟩
  exact k _ F2 As2 H2 (st1.trans st2) g2 (.cons (r1.mono st2.hf) r2)

/-- an operation behind its arguments -/
theorem op_end {G : Gc} {p : Prim} {es : Es} {Q : VK} {pu : Bool} (h : tE K Cl pu (ev G (.op p es)) σ H Q) : tA K Cl pu (evs G es) σ H fun xs H1 => RP K Cl p xs H1 Q := by
  obtain ⟨ρ, F, As, m, ρ', e, g, k⟩ := h
  unfold ev at e
  obtain ⟨ts, ρ1, e1, e⟩ := bnd_some e
  obtain ⟨m', e2, e⟩ := obd_some e
  cases e
  refine ⟨ρ, F, As, ts, ρ', e1, g, fun vs F1 As1 H1 st1 g1 r1 => ⟨F1, ts, m, g1.same, r1, e2, fun v F2 H2 A st2 s2 r2 => ?_⟩⟩
  -- the slots stand as they did
  have hA : ∀ a, A a → H1 a = none := fun a ha => (st2.own a ha).elim (fun z => z.elim) id
  have g2 : Good K Cl ρ' σ F2 As1 H2 := by
    refine ⟨s2, fun i m e => ?_, g1.out, g1.dis, g1.len⟩
    obtain ⟨v, ev, r⟩ := g1.rep i m e
    exact ⟨v, ev, (st2.held r fun _ _ z => z).1⟩
  refine k v F2 As1 A H2 ?_ g2 r2 fun a ha ⟨i, hi⟩ => ?_
  · refine (st1.trans (q := true) (F3 := F2) (S3 := (Own As1).or A) (H3 := H2) ⟨st2.hf, fun b o e h => st2.keep b o e fun z => z, fun b h => h.imp id fun z => hA b z, fun b o e => (st2.frz b o e).imp id fun z => z.elim (fun y => y.elim) .inr, fun _ => st2.pur rfl⟩).weak fun h => ?_
    rw [h]; rfl
  · obtain ⟨_, o, e⟩ := g1.own hi
    rw [hA a ha] at e; cases e
end
end Mk
/-! Mk: does a text's expression read as one of the language? -/
namespace Mk
open PySem L2
structure FnI where
  name : Str
  ps : List Str
  kws : List (List Str × List Nat)
/-- a class: its name, its fields -/
structure ClI where
  name : Str
  fs : List Str
/-- a method: as what it is called in the table, its class, its name -/
structure MtI where
  j : Str
  cn : Str
  m : Str
  ps : List Str
structure Zs where
  N : List Str
  bl : List Str
  consts : List Str
  fns : List FnI
  cls : List ClI := []
  mts : List MtI := []

def visB (sc : Scope) (x : Str) : Bool := match sc.names.lookup x with
  | some .local => true | some .cell => true | some .free => true | _ => false
def locB (sc : Scope) (x : Str) : Bool := match sc.names.lookup x with
  | some .local => true | some .cell => true | _ => false
def glB (sc : Scope) (x : Str) : Bool := sc.names.lookup x == some .globalImplicit && !(x == ("__debug__" : Str)) && !(x == ("__name__" : Str))
def varB (Z : Zs) (sc : Scope) (i : Nat) (x : Str) : Bool := Z.N[i]? == some x && visB sc x && !(x == ("__debug__" : Str)) && !(x == ("__classdict__" : Str))
theorem vis_of {sc : Scope} {x : Str} (h : visB sc x = true) : Vis sc x := by
  unfold visB at h
  unfold Vis
  split at h
  · rename_i q; exact .inl q
  · rename_i q; exact .inr (.inl q)
  · rename_i q; exact .inr (.inr q)
  · cases h
theorem loc_of {sc : Scope} {x : Str} (h : locB sc x = true) : L2.Loc sc x := by
  unfold locB at h
  unfold L2.Loc
  split at h
  · rename_i q; exact .inl q
  · rename_i q; exact .inr q
  · cases h
def constB : T → Const → Bool
  | .non, .none => true
  | .bl a, .bool b => a == b
  | .int a, .int b => a == b
  | .str a, .str b => a == b
  | _, _ => false
def binP : Operator → Option Prim
  | .Add => some .add | .Sub => some .sub | .Mult => some .mul | .FloorDiv => some .fdiv | .Mod => some .mod | .Pow => some .pow
  | _ => none
def cmpP : CmpOp → Option Prim
  | .Eq => some .eq | .NotEq => some .ne | .Lt => some .lt | .LtE => some .le | .Gt => some .gt | .GtE => some .ge
  | _ => none
/-- the built-in that an operation is called by, and with how many arguments -/
def bltN : Prim → Option (Str × Nat)
  | .len => some ("len", 1) | .abs => some ("abs", 1) | .int => some ("int", 1) | .sum => some ("sum", 1) | .max1 => some ("max", 1) | .max2 => some ("max", 2)
  | .min1 => some ("min", 1) | .min2 => some ("min", 2) | .sorted => some ("sorted", 1) | .all => some ("all", 1) | .any => some ("any", 1) | .list => some ("list", 1) | .tuple => some ("tuple", 1)
  | .max3 => some ("max", 3)
  | _ => none
def tyB (x : Str) : Option Ty :=
  if x = "int" then some .int else if x = "bool" then some .bool else if x = "str" then some .str else if x = "list" then some .list else if x = "tuple" then some .tuple else none
def inP : CmpOp → Option Prim
  | .In => some .inn | .NotIn => some .nin | .Is => some .isb | .IsNot => some .notb
  | _ => none
def isRev : Expr → Bool
  | .Slice none none (some (.UnaryOp .USub (.Constant (.int 1) _ _) _)) _ => true
  | _ => false
def isSlice : Expr → Bool
  | .Slice _ _ none _ => true
  | _ => false
def plainTest : Expr → Bool
  | .UnaryOp .Not _ _ => false
  | .BoolOp _ _ _ => false
  | .IfExp _ _ _ _ => false
  | .Compare _ _ _ _ => false
  | _ => true
def namesB (Z : Zs) (sc : Scope) : List Ty → List Expr → Bool
  | [], [] => true
  | t :: ts, .Name x _ :: es => tyB x == some t && glB sc x && Z.bl.contains x && namesB Z sc ts es
  | _, _ => false
def Tg.slots : Tg → List Nat
  | .nm i => [i]
  | .t2 a b => a.slots ++ b.slots
  | .t3 a b c => a.slots ++ b.slots ++ c.slots
  | .t4 a b c d => a.slots ++ b.slots ++ c.slots ++ d.slots
def chkTg (Z : Zs) (sc : Scope) (so : Str → Bool) : Tg → Expr → Bool
  | .nm i, .Name x _ => Z.N[i]? == some x && locB sc x && so x
  | .t2 a b, .Tuple [x, y] _ _ => chkTg Z sc so a x && chkTg Z sc so b y
  | .t3 a b c, .Tuple [x, y, z] _ _ => chkTg Z sc so a x && chkTg Z sc so b y && chkTg Z sc so c z
  | .t4 a b c d, .Tuple [x, y, z, w] _ _ => chkTg Z sc so a x && chkTg Z sc so b y && chkTg Z sc so c z && chkTg Z sc so d w
  | _, _ => false
def isTupE : Expr → Bool
  | .Tuple _ _ _ => true
  | _ => false
def kwNames : List Keyword → Option (List Str)
  | [] => some []
  | ⟨some x, _, _⟩ :: r => (kwNames r).map (x :: ·)
  | _ => none
/-- the comprehension's scope against the def's -/
def blkB (N : List Str) (sc scope : Scope) (own : List (Str × Nat)) : Bool :=
  scope.kind == .function && scope.names.all (fun y => scope.names.lookup y.1 == some y.2) && own.all (fun p => N[p.2]? == some p.1) &&
  scope.names.all (fun y => !(y.2 == .free) || sc.names.lookup y.1 == some .cell || sc.names.lookup y.1 == some .free) &&
  scope.names.all (fun y => !(y.2 == .local || y.2 == .cell) || (own.map (·.1)).contains y.1 || !(N.contains y.1))
def noneP : CmpOp → Expr → Option Prim
  | .Is, .Constant .none _ _ => some .isN
  | .IsNot, .Constant .none _ _ => some .notN
  | _, _ => none
def restB (op : BoolOp) (y : Expr) (r : List Expr) (pos : Pos) : Expr := match r with
  | [] => y
  | _ => .BoolOp op (y :: r) pos
def isiB (Z : Zs) (sc : Scope) (cs : List Ty) (many : Bool) (c : Expr) : Bool := match many, c with
  | false, .Name t p => namesB Z sc cs [.Name t p]
  | true, .Tuple ts _ _ => namesB Z sc cs ts && decide (cs.length ≤ 10)
  | _, _ => false
def Zs.fn (Z : Zs) (x : Str) : Option FnI := Z.fns.find? fun I => I.name == x
theorem Zs.fn_name {Z : Zs} {x : Str} {I : FnI} (h : Z.fn x = some I) : I.name = x := by
  have := List.find?_some h
  exact beq_iff_eq.mp this
def fnB (Z : Zs) (j : Str) (x : Str) : Bool := j == x && (Z.fn j).isSome
def fnKB (Z : Zs) (j : Str) (x : Str) (kws : List Keyword) (perm : List Nat) : Bool := match Z.fn j, kwNames kws with
  | some I, some ks => j == x && I.kws.contains (ks, perm)
  | _, _ => false
def sqN (tup : Bool) : Str := if tup = true then "tuple" else "list"
def Zs.cl (Z : Zs) (cn : Str) : Option ClI := Z.cls.find? fun I => I.name == cn
theorem Zs.cl_name {Z : Zs} {x : Str} {I : ClI} (h : Z.cl x = some I) : I.name = x := by
  have := List.find?_some h
  exact beq_iff_eq.mp this
def Zs.mt (Z : Zs) (j : Str) : Option MtI := Z.mts.find? fun I => I.j == j
theorem Zs.mt_name {Z : Zs} {x : Str} {I : MtI} (h : Z.mt x = some I) : I.j = x := by
  have := List.find?_some h
  exact beq_iff_eq.mp this
/-- the field f of the class cn is called a -/
def fldB (Z : Zs) (cn : Str) (f : Nat) (a : Str) : Bool := match Z.cl cn with
  | some I => I.fs[f]? == some a
  | none => false
/-- j is the method m of the class cn, with so many arguments behind the object -/
def mthB (Z : Zs) (j cn m : Str) : Bool := match Z.mt j with
  | some I => I.cn == cn && I.m == m && !(m == ("__init__" : Str)) && (Z.cl cn).isSome
  | none => false
def newB (Z : Zs) (j cn : Str) (n : Nat) : Bool := match Z.mt j, Z.cl cn with
  | some I, some C => I.cn == cn && I.m == ("__init__" : Str) && C.fs.length == n
  | _, _ => false
/-- a name, or a call of a name with arguments -/
def recvOk : Expr → Bool
  | .Name _ _ => true
  | .Call (.Name _ _) (_ :: _) _ _ => true
  | _ => false
def isC1 : E → Bool
  | .comp _ _ _ _ _ => true
  | _ => false
/-- {k: True for ..} as [k for ..] -/
def asLc : Expr → Option Expr
  | .DictComp k (.Constant (.bool true) _ _) gens scope pos => some (.ListComp k gens scope pos)
  | _ => none
mutual
def chkE (Z : Zs) : E → Scope → (Str → Bool) → Expr → Bool
  | .k t, _, _, .Constant c _ _ => constB t c
  | .g j, sc, _, .Name x _ => j == x && Z.consts.contains x && glB sc x
  | .var i, sc, _, .Name x _ => varB Z sc i x
  | .op p es, sc, so, .BinOp a o b _ => binP o == some p && chkEs Z es sc so [a, b]
  | .op p es, sc, so, .UnaryOp .USub a _ => p == .neg && chkEs Z es sc so [a]
  | .op p es, sc, so, .Compare a [o] [b] _ => (cmpP o == some p && chkEs Z es sc so [a, b]) || (noneP o b == some p && chkEs Z es sc so [a]) || (inP o == some p && !behindInMarks o b && chkEs Z es sc so [a, b])
  | .op p es, sc, so, .Subscript a b _ => (p == .idx && !isSlice b && chkEs Z es sc so [a, b]) || (p == .rev && isRev b && chkEs Z es sc so [a])
  | .op p es, sc, so, .Call (.Name x _) args [] _ => bltN p == some (x, args.length) && glB sc x && Z.bl.contains x && chkEs Z es sc so args
  | .sl x lo hi, sc, so, .Subscript a (.Slice l u none _) _ => chkE Z x sc so a && chkO Z lo sc so l && chkO Z hi sc so u
  | .tup es, sc, so, .Tuple elts _ _ => chkEs Z es sc so elts
  | .lst es, sc, so, .List elts _ => chkEs Z es sc so elts
  | .ite c a b, sc, so, .IfExp t x y _ => chkC Z c sc so t && chkE Z a sc so x && chkE Z b sc so y
  | .and a b, sc, so, .BoolOp .And (x :: y :: r) pos => chkE Z a sc so x && chkE Z b sc so (restB .And y r pos)
  | .or a b, sc, so, .BoolOp .Or (x :: y :: r) pos => chkE Z a sc so x && chkE Z b sc so (restB .Or y r pos)
  | .not a, sc, so, .UnaryOp .Not x _ => chkE Z a sc so x
  | .chain p q a b c, sc, so, .Compare x [o, o'] [y, z] _ => cmpP o == some p && cmpP o' == some q && chkE Z a sc so x && chkE Z b sc so y && chkE Z c sc so z
  | .isi a cs many, sc, so, .Call (.Name f _) [x, c] [] _ => f == ("isinstance" : Str) && glB sc f && Z.bl.contains f && chkE Z a sc so x && isiB Z sc cs many c
  | .call j es, sc, so, .Call (.Name x _) (a :: args) [] _ => fnB Z j x && glB sc x && chkEs Z es sc so (a :: args)
  | .callp j es, sc, so, .Call (.Name x _) (a :: args) [] _ => fnB Z j x && glB sc x && chkEs Z es sc so (a :: args)
  | .callk j es perm, sc, so, .Call (.Name x _) [] kws _ => fnKB Z j x kws perm && glB sc x && chkEs Z es sc so (kws.map (·.value)) && !kws.isEmpty
  | .comp own tg it cs elt, sc, so, .ListComp e [⟨t, i, ifs, 0⟩] scope _ =>
      let ow := own.filterMap fun j => (Z.N[j]?).map fun x => (x, j)
      let sc' := relS scope sc
      let so' := fun x => scope.names.lookup x == some .local || scope.names.lookup x == some .cell
      ow.map (·.2) == own && blkB Z.N sc scope ow && chkI Z it sc so (isTupE t) i && chkTg Z sc' so' tg t && tg.slots.all own.contains && chkCs Z cs sc' so' ifs && chkE Z elt sc' so' e
  | .comp2 own own2 tg it cs tg2 it2 cs2 elt, sc, so, .ListComp e [⟨t, i, ifs, 0⟩, ⟨t2, i2, ifs2, 0⟩] scope _ =>
      let ow := own.filterMap fun j => (Z.N[j]?).map fun x => (x, j)
      let sc' := relS scope sc
      let so' := fun x => scope.names.lookup x == some .local || scope.names.lookup x == some .cell
      ow.map (·.2) == own && blkB Z.N sc scope ow && chkI Z it sc so (isTupE t) i && chkTg Z sc' so' tg t && tg.slots.all own.contains && chkCs Z cs sc' so' ifs &&
      own2.all own.contains && chkI Z it2 sc' so' (isTupE t2) i2 && chkTg Z sc' so' tg2 t2 && tg2.slots.all own2.contains && chkCs Z cs2 sc' so' ifs2 && chkE Z elt sc' so' e
  | .pop0 i, sc, _, .Call (.Attribute (.Name x _) m ap) [] [] pos => varB Z sc i x && m == ("pop" : Str) && ap.endLine == pos.line
  | .pop i a, sc, so, .Call (.Attribute (.Name x _) m ap) [e] [] pos => varB Z sc i x && m == ("pop" : Str) && ap.endLine == pos.line && chkE Z a sc so e
  | .rgl tup a, sc, so, .Call (.Name l _) [.Call (.Name r _) [x] [] _] [] _ => l == sqN tup && glB sc l && Z.bl.contains l && r == ("range" : Str) && glB sc r && Z.bl.contains r && chkE Z a sc so x
  | .rgl2 tup a b, sc, so, .Call (.Name l _) [.Call (.Name r _) [x, y] [] _] [] _ => l == sqN tup && glB sc l && Z.bl.contains l && r == ("range" : Str) && glB sc r && Z.bl.contains r && chkE Z a sc so x && chkE Z b sc so y
  | .fld i cn f, sc, so, .Attribute (.Name x _) a _ => varB Z sc i x && fldB Z cn f a
  | .fidx i cn f e, sc, so, .Subscript (.Attribute (.Name x _) a _) b _ => varB Z sc i x && fldB Z cn f a && !isSlice b && chkE Z e sc so b
  | .flen i cn f, sc, so, .Call (.Name l _) [.Attribute (.Name x _) a _] [] _ => l == ("len" : Str) && glB sc l && Z.bl.contains l && varB Z sc i x && fldB Z cn f a
  | .new j cn n es, sc, so, .Call (.Name x _) (a :: args) [] _ => x == cn && glB sc x && newB Z j cn n && chkEs Z es sc so (a :: args)
  | .meth j cn es, sc, so, .Call (.Attribute o m ap) args [] pos => mthB Z j cn m && recvOk o && ap.endLine == pos.line && decide (args.length < 29) && chkEs Z es sc so (o :: args)
  | .methp j cn es, sc, so, .Call (.Attribute o m ap) args [] pos => mthB Z j cn m && recvOk o && ap.endLine == pos.line && decide (args.length < 29) && chkEs Z es sc so (o :: args)
  | .call0 j, sc, _, .Call (.Name x _) [] [] _ => fnB Z j x && glB sc x
  | .sd e, sc, so, .Call (.Name x _) [d] [] _ => x == ("sorted" : Str) && glB sc x && Z.bl.contains x && isC1 e && (match asLc d with
    | some l => chkE Z e sc so l
    | none => false)
  | .bor e, sc, so, .Call f args kws pos => chkE Z e sc so (.Call f args kws pos)
  | _, _, _, _ => false
def chkEs (Z : Zs) : Es → Scope → (Str → Bool) → List Expr → Bool
  | .nil, _, _, [] => true
  | .cons e es, sc, so, x :: xs => chkE Z e sc so x && chkEs Z es sc so xs
  | _, _, _, _ => false
def chkO (Z : Zs) : Op → Scope → (Str → Bool) → Option Expr → Bool
  | .no, _, _, none => true
  | .some e, sc, so, some x => chkE Z e sc so x
  | _, _, _, _ => false
def chkC (Z : Zs) : C → Scope → (Str → Bool) → Expr → Bool
  | .val e, sc, so, .Compare x os ys pos => chkE Z e sc so (.Compare x os ys pos)
  | .not c, sc, so, .UnaryOp .Not x _ => chkC Z c sc so x
  | .and a b, sc, so, .BoolOp .And (x :: y :: r) pos => chkC Z a sc so x && chkC Z b sc so (restB .And y r pos)
  | .or a b, sc, so, .BoolOp .Or (x :: y :: r) pos => chkC Z a sc so x && chkC Z b sc so (restB .Or y r pos)
  | .val e, sc, so, x => plainTest x && chkE Z e sc so x
  | _, _, _, _ => false
def chkCs (Z : Zs) : Cs → Scope → (Str → Bool) → List Expr → Bool
  | .nil, _, _, [] => true
  | .cons c .nil, sc, so, [x] => chkC Z c sc so x
  | _, _, _, _ => false
def chkI (Z : Zs) : I → Scope → (Str → Bool) → Bool → Expr → Bool
  | .seq e, sc, so, _, x => chkE Z e sc so x
  | .range1 a, sc, so, _, .Call (.Name f _) [x] [] _ => f == ("range" : Str) && glB sc f && Z.bl.contains f && chkE Z a sc so x
  | .range2 a b, sc, so, _, .Call (.Name f _) [x, y] [] _ => f == ("range" : Str) && glB sc f && Z.bl.contains f && chkE Z a sc so x && chkE Z b sc so y
  | .enum a, sc, so, true, .Call (.Name f _) [x] [] _ => f == ("enumerate" : Str) && glB sc f && Z.bl.contains f && chkE Z a sc so x
  | .zip a b, sc, so, true, .Call (.Name f _) [x, y] [] _ => f == ("zip" : Str) && glB sc f && Z.bl.contains f && chkE Z a sc so x && chkE Z b sc so y
  | .range3 a b c, sc, so, _, .Call (.Name f _) [x, y, z] [] _ => f == ("range" : Str) && glB sc f && Z.bl.contains f && chkE Z a sc so x && chkE Z b sc so y && chkE Z c sc so z
  | .zip3 a b c, sc, so, true, .Call (.Name f _) [x, y, z] [] _ => f == ("zip" : Str) && glB sc f && Z.bl.contains f && chkE Z a sc so x && chkE Z b sc so y && chkE Z c sc so z
  | _, _, _, _, _ => false
end
/-- what a def's promise says: its run on values that lie where the arguments do -/
def spOf (K : PySem.W.Frag) (Cl : Nat → Option ClsI) (F : Fn) (n : Nat) : Sp := fun vs H Q _ => vs.length = n ∧ ∃ (F0 : Hp) (As : Nat → AS) (ms : List M) (m : M) (ms' : Slots), F.sem ms = some (m, ms') ∧ ms.length = n ∧ F.mu.length = n ∧ Same F0 H ∧
  (∀ (i : Nat) (mi : M), ms[i]? = some mi → ∃ v, vs[i]? = some v ∧ RepM K Cl F0 H mi v (As i)) ∧ (∀ i j a, i ≠ j → As i a → ¬ As j a) ∧ (∀ i : Nat, n ≤ i → ∀ a, ¬ As i a) ∧ (∀ i : Nat, F.mu[i]? = some false → ∃ t, ms[i]? = some (mt t)) ∧
  ∀ (v : V) (F' : Hp) (As' : Nat → AS) (A : AS) (H' : Hp), Step false F0 (Own As) H F' ((Own As').or A) H' → Same F' H' → RepM K Cl F' H' m v A → (∀ i j a, i ≠ j → As' i a → ¬ As' j a) → (∀ a, A a → ¬ Own As' a) →
    (∀ i : Nat, F.mu[i]? = some true → ∃ mi vi, ms'[i]? = some (some mi) ∧ vs[i]? = some vi ∧ RepM K Cl F' H' mi vi (As' i)) → (∀ i : Nat, F.mu[i]? ≠ some true → ∀ a, ¬ As' i a) → Q v H'
structure Ok (Z : Zs) (G : Gc) (Cl : Nat → Option ClsI) (sc : Scope) (so : Str → Bool) (X : Cx) : Prop where
  calm : X.calm = true
  N : X.N = Z.N
  nd : Z.N.Nodup
  sc : X.env.scope = sc
  st : ∀ x, so x = true → L2.Loc X.env.scope x → (X.fn x = true ∨ X.env.scope.names.lookup x = some .local)
  bl : ∀ x ∈ Z.bl, X.mg x = none
  cs : ∀ (x : Str) (t : T), Z.consts.contains x = true → G.consts x = some t → ∃ u v, X.mg x = some u ∧ RelV v u ∧ RepT X.K (fun _ => none) t v
  fns : ∀ (j : Str) (I : FnI) (F : Fn), Z.fn j = some I → G.fns j = some F → ∃ f fd k, Room k X.A ∧ X.mg I.name = some (.ref f) ∧ PySem.W.keepIn X.K (.ref f) = true ∧ Binds X.K fd I.ps [] ∧ F.mu.length = I.ps.length ∧
    (∀ ks perm, (ks, perm) ∈ I.kws → ks.length = I.ps.length ∧ perm.length = I.ps.length ∧ (∀ i ∈ perm, i < ks.length) ∧ ∀ (s : Shared) (ws : List Value), X.K.In s.heap → ws.length = ks.length → BindsTo s fd ⟨[], ks.zip ws⟩ (I.ps.zip (perm.map fun i => ws.getD i .none))) ∧
    FnOk X.prog X.w X.K X.mg X.base CX0 k f fd I.ps (spOf X.K Cl F I.ps.length)
  units : X.A.units + 64 < cLine
  cls : ∀ (cn : Str) (I : ClI) (ci : ClsI), Z.cl cn = some I → G.consts cn = some (.cl ci) → ci.fs = I.fs ∧ Cls X.K ci.C ∧ (∀ f ∈ ci.fs, NoAttr X.K ci.C f) ∧ ci.fs.Nodup ∧ ci.fs.length < 900 ∧ X.mg cn = some (.ref ci.C)
  mts : ∀ (j : Str) (I : MtI) (F : Fn) (ci : ClsI), Z.mt j = some I → G.fns j = some F → G.consts I.cn = some (.cl ci) → ∃ f fd k, Room (k + 1) X.A ∧ (I.m = "__init__" → L2.Mk X.K ci.C f) ∧ (I.m ≠ "__init__" → Meth X.K ci.C I.m f ∧ I.m ∉ ci.fs) ∧
    Binds X.K fd I.ps [] ∧ F.mu.length = I.ps.length ∧ FnOk X.prog X.w X.K X.mg X.base CX0 k f fd I.ps (spOf X.K Cl F I.ps.length)

section
variable {Z : Zs} {G : Gc} {Cl : Nat → Option ClsI} {sc : Scope} {so : Str → Bool} {X : Cx}
theorem Ok.gl (ok : Ok Z G Cl sc so X) {x : Str} (h : glB sc x = true) : Gl X x ∧ (x == ("__debug__" : Str)) = false ∧ x ≠ "__name__" := by
  unfold glB at h
  simp only [Bool.and_eq_true, Bool.not_eq_true', beq_iff_eq, beq_eq_false_iff_ne] at h
  refine ⟨?_, ?_, ?_⟩
  · show X.env.scope.names.lookup x = _
    rw [ok.sc]; exact h.1.1
  · simpa using h.1.2
  · simpa using h.2
theorem Ok.name (ok : Ok Z G Cl sc so X) {i : Nat} {x : Str} {pos : Pos} (h : varB Z sc i x = true) : PE X (.Name x pos) (tVar i) := by
  unfold varB at h
  simp only [Bool.and_eq_true, Bool.not_eq_true', beq_iff_eq] at h
  exact pe_var (by rw [ok.N]; exact h.1.1.1) (by rw [ok.sc]; exact vis_of h.1.1.2) (by simpa using h.1.2) (by simpa using h.2)
theorem star_of {e : Expr} {es : List Expr} {env : Env} {Z : Zs} {ir : E} {sc : Scope} {so : Str → Bool} (h : chkE Z ir sc so e = true) : starEach (e :: es) env = (false, eval e env) :: starEach es env := by
  cases e <;> first
    | rfl
    | (cases ir <;> (unfold chkE at h; cases h))
theorem plain_of {Z : Zs} {sc : Scope} {so : Str → Bool} {env : Env} {pos : Pos} : ∀ {irs : Es} {es : List Expr}, chkEs Z irs sc so es = true → (backTo pos (starEach es env)).any (·.1) = false
  | .nil, [], _ => rfl
  | .cons e es, x :: xs, h => by
    unfold chkEs at h
    rw [Bool.and_eq_true] at h
    rw [star_of h.1]
    exact plain_of (irs := es) h.2
  | .nil, _ :: _, h => by unfold chkEs at h; cases h
  | .cons _ _, [], h => by unfold chkEs at h; cases h
theorem ix_of {b : Expr} {Z : Zs} {ir : E} {sc : Scope} {so : Str → Bool} (h : chkE Z ir sc so b = true) : PlainIx b := fun o i => by
  cases b <;> first
    | rfl
    | (cases ir <;> (unfold chkE at h; cases h))
theorem fold_of {b : Expr} {env : Env} {Z : Zs} {ir : E} {sc : Scope} {so : Str → Bool} (h : chkE Z ir sc so b = true) : ∀ x, foldedSetIterable b env x = pure x := fun x => by
  cases b <;> first
    | rfl
    | (cases ir <;> (unfold chkE at h; cases h))
end
end Mk
set_option maxHeartbeats 4000000
/-! Mk: each construct of the language is what the text does. -/
namespace Mk
open PySem L2
section
variable {K : PySem.W.Frag} {Cl : Nat → Option ClsI} {F H : Hp} {ρ : Slots} {σ : St} {As : Nat → AS} {G : Gc}
theorem tV.mono {pu : Bool} {sl : Option Nat} {f : Slots → Option (M × Slots)} {Q Q' : VK} (h : tV K Cl pu sl f σ H Q) (w : ∀ v H, Q v H → Q' v H) : tV K Cl pu sl f σ H Q' := by
  obtain ⟨ρ, F, As, t, ρ', e, g, k⟩ := h
  exact ⟨ρ, F, As, t, ρ', e, g, fun v F' As' H' st g' r r' => w _ _ (k v F' As' H' st g' r r')⟩
theorem tF.mono {pu : Bool} {f : Slots → Option (T × Slots)} {Q Q' : VK} (h : tF K Cl pu f σ H Q) (w : ∀ v H, Q v H → Q' v H) : tF K Cl pu f σ H Q' := by
  obtain ⟨ρ, F, As, t, ρ', e, g, k⟩ := h
  exact ⟨ρ, F, As, t, ρ', e, g, fun v F' As' H' st g' r => w _ _ (k v F' As' H' st g' r)⟩
theorem evs1 {ea : E} {Qs : List V → Hp → Prop} (h : tA K Cl (Es.cons ea .nil).vs (evs G (.cons ea .nil)) σ H Qs) : tV K Cl ea.vs ea.slot? (ev G ea) σ H fun x H1 => Qs [x] H1 :=
  (evs_cons h).mono fun _ _ q => evs_nil q
theorem evs2 {ea eb : E} {Qs : List V → Hp → Prop} (h : tA K Cl (Es.cons ea (.cons eb .nil)).vs (evs G (.cons ea (.cons eb .nil))) σ H Qs) :
    tV K Cl ea.vs ea.slot? (ev G ea) σ H fun x H1 => tV K Cl eb.vs eb.slot? (ev G eb) σ H1 fun y H2 => Qs [x, y] H2 :=
  (evs_cons h).mono fun _ _ q => (evs_cons q).mono fun _ _ q => evs_nil q
/-- behind an operation that made at most one new thing, the slots stand as they did -/
theorem Good.after {F2 H2 : Hp} {A : AS} (g1 : Good K Cl ρ σ F As H) (st2 : Step true F non H F2 A H2) (s2 : Same F2 H2) :
    Good K Cl ρ σ F2 As H2 ∧ Step true F (Own As) H F2 ((Own As).or A) H2 ∧ ∀ a, A a → ¬ Own As a := by
  have hA : ∀ a, A a → H a = none := fun a ha => (st2.own a ha).elim (fun z => z.elim) id
  refine ⟨⟨s2, fun i m e => ?_, g1.out, g1.dis, g1.len⟩, ⟨st2.hf, fun b o e h => st2.keep b o e fun z => z, fun b h => h.imp id fun z => hA b z, fun b o e => (st2.frz b o e).imp id fun z => z.elim (fun y => y.elim) .inr, fun _ => st2.pur rfl⟩, fun a ha ⟨i, hi⟩ => ?_⟩
  · obtain ⟨v, ev, r⟩ := g1.rep i m e
    exact ⟨v, ev, (st2.held r fun _ _ z => z).1⟩
  · obtain ⟨_, o, e⟩ := g1.own hi
    rw [hA a ha] at e; cases e

/-! ### with the def's context -/
variable {Z : Zs} {sc : Scope} {so : Str → Bool} {X : Cx}
theorem snd_k (t : T) {c : Const} {j : Nat} {pos : Pos} (h : constB t c = true) : PE X (.Constant c j pos) (tE X.K Cl true (ev G (.k t))) := by
  have end_ : ∀ {v : V} {σ : St} {H : Hp} {Q : VK}, (∀ F, RepT X.K F t v) → tE X.K Cl true (ev G (.k t)) σ H Q → Q v H := fun r q => by
    obtain ⟨ρ, F, As, m, ρ', e, g, k⟩ := q
    cases e
    exact k _ F As non _ (Step.refl.less fun b h => h.elim id fun z => z.elim) g ⟨fun _ h => h, r F⟩ fun _ h => h.elim
  cases t <;> cases c <;> first
    | (unfold constB at h; cases h; done)
    | exact pe_non.imp fun σ H Q q => end_ (fun _ => .non) q
    | (unfold constB at h; cases (beq_iff_eq.mp h); first
        | exact pe_bl.imp fun σ H Q q => end_ (fun _ => .bl _) q
        | exact pe_int.imp fun σ H Q q => end_ (fun _ => .int _) q
        | exact pe_str.imp fun σ H Q q => end_ (fun _ => .str _) q)
theorem snd_g (ok : Ok Z G Cl sc so X) {j : Str} {x : Str} {pos : Pos} (h : (j == x && Z.consts.contains x && glB sc x) = true) : PE X (.Name x pos) (tE X.K Cl true (ev G (.g j))) := by
  simp only [Bool.and_eq_true, beq_iff_eq] at h
  obtain ⟨⟨rfl, h1⟩, h2⟩ := h
  obtain ⟨hg, hd, _⟩ := ok.gl h2
  cases q : G.consts j with
  | none =>
    refine ⟨fun pins s σ H Q I hh => ?_⟩
    obtain ⟨ρ, F, As, m, ρ', e, g, k⟩ := hh
    unfold ev at e; rw [q] at e; cases e
  | some t =>
    obtain ⟨u, v, hm, r, rt⟩ := ok.cs j t h1 q
    refine (pe_glob hg hm r hd).imp fun σ H Q hh => ?_
    obtain ⟨ρ, F, As, m, ρ', e, g, k⟩ := hh
    unfold ev at e; rw [q] at e; cases e
    exact k _ F As non _ (Step.refl.less fun b h => h.elim id fun z => z.elim) g ⟨fun _ h => h, rt.mono fun _ _ z => by cases z⟩ fun _ h => h.elim
theorem snd_var {i : Nat} {x : Str} {pos : Pos} (h : PE X (.Name x pos) (tVar i)) : PE X (.Name x pos) (tE X.K Cl true (ev G (.var i))) := h.imp fun σ H Q hh => by
  obtain ⟨ρ, F, As, m, ρ', e, g, k⟩ := hh
  unfold ev at e
  split at e
  · rename_i t q
    cases e
    obtain ⟨v, e1, r⟩ := g.rep i _ q
    have r' : RepB X.K F H (.fz t) v (As i) := r
    exact ⟨v, e1, k v F As non H (Step.refl.less fun b h => h.elim id fun z => z.elim) g ⟨fun _ h => h, r'.2⟩ fun _ h => h.elim⟩
  · rename_i x' hn q
    cases e
    obtain ⟨v, e1, g', st, r⟩ := g.frzAt q
    exact ⟨v, e1, k v _ _ non H (st.less fun b h => h.elim id fun z => z.elim) g' ⟨fun _ h => h, r⟩ fun _ h => h.elim⟩
  · cases e
theorem snd_bin {p : Prim} {o : Operator} {a b : Expr} {ea eb : E} {pos : Pos} (rule : OpR X (binaryOp o) (R2P X.K Cl p)) (ha : PE X a (tV X.K Cl ea.vs ea.slot? (ev G ea))) (hb : PE X b (tV X.K Cl eb.vs eb.slot? (ev G eb))) :
    PE X (.BinOp a o b pos) (tE X.K Cl (E.op p (.cons ea (.cons eb .nil))).vs (ev G (.op p (.cons ea (.cons eb .nil))))) := (pe_op rule ha hb).imp fun _ _ _ q => evs2 (op_end q)
theorem snd_neg {a : Expr} {ea : E} {pos : Pos} (ha : PE X a (tV X.K Cl ea.vs ea.slot? (ev G ea))) : PE X (.UnaryOp .USub a pos) (tE X.K Cl (E.op .neg (.cons ea .nil)).vs (ev G (.op .neg (.cons ea .nil)))) :=
  (pe_un q_neg ha).imp fun _ _ _ q => evs1 (op_end q)
theorem snd_idx {a b : Expr} {ea eb : E} {pos : Pos} (hi : PlainIx b) (ha : PE X a (tV X.K Cl ea.vs ea.slot? (ev G ea))) (hb : PE X b (tV X.K Cl eb.vs eb.slot? (ev G eb))) :
    PE X (.Subscript a b pos) (tE X.K Cl (E.op .idx (.cons ea (.cons eb .nil))).vs (ev G (.op .idx (.cons ea (.cons eb .nil))))) := (pe_ix q_idx ha hb hi).imp fun _ _ _ q => evs2 (op_end q)

/-! comparisons: as values, as tests -/
def Prim.isB : Prim → Bool
  | .eq => true | .ne => true | .lt => true | .le => true | .gt => true | .ge => true | .isN => true | .notN => true
  | .isb => true | .notb => true | .inn => true | .nin => true
  | _ => false
theorem prim_bl {p : Prim} {ts : List T} {m : M} (hp : p.isB = true) (h : primSem p ts = some m) : ∃ b, m = mt (.bl b) := by
  have cm : ∀ {f : Int → Int → Bool} {a b : T}, pCmp f a b = some m → ∃ b, m = mt (.bl b) := fun h => by
    unfold pCmp at h
    split at h
    · exact ⟨_, rb_ h⟩
    · cases h
  unfold primSem at h
  split at h <;> first
    | (cases h; done)
    | (exact (Bool.noConfusion hp); done)
    | exact ⟨_, rb_ h⟩
    | exact cm h
    | (obtain ⟨c, _, h⟩ := map_some h; exact ⟨_, h.symm⟩)
/-- a value that is a truth -/
def E.isB : E → Bool
  | .op p _ => p.isB
  | .chain _ q _ _ _ => q.isB
  | _ => false
theorem ev_bl {e : E} {ρ ρ' : Slots} {m : M} (he : e.isB = true) (h : ev G e ρ = some (m, ρ')) : ∃ b, m = mt (.bl b) := by
  cases e <;> first
    | (exact (Bool.noConfusion he); done)
    | skip
  · unfold ev at h
    obtain ⟨ts, ρ1, _, h⟩ := bnd_some h
    obtain ⟨m', h1, h⟩ := obd_some h
    cases h
    exact prim_bl he h1
  · unfold ev at h
    obtain ⟨x, ρ1, _, h⟩ := bnd_some h
    obtain ⟨y, ρ2, _, h⟩ := bnd_some h
    obtain ⟨r, _, h⟩ := obd_some h
    split at h
    · obtain ⟨z, ρ3, _, h⟩ := bnd_some h
      obtain ⟨r', h1, h⟩ := obd_some h
      cases h
      exact prim_bl he h1
    · cases h; exact ⟨_, rfl⟩
    · cases h
/-- the reading as a test, of what is a truth -/
theorem test_end {e : E} {Q : Bool → Hp → Prop} (hb : e.isB = true) (h : tCd K Cl (evC G (.val e)) σ H Q) : tE K Cl false (ev G e) σ H fun v H' => ∃ k, v = .bl k ∧ Q k H' := by
  obtain ⟨ρ, F, As, b, ρ', e1, g, k⟩ := h
  unfold evC at e1
  obtain ⟨t, ρ1, e2, e1⟩ := bnd_some e1
  obtain ⟨b', e3, e1⟩ := obd_some e1
  cases e1
  have hs : e.slot? = none := by cases e <;> first | rfl | exact (Bool.noConfusion hb)
  rw [hs] at e2
  have e2 : (bnd (ev G e ρ) fun m ρ => obd m.frz fun t => some (t, ρ)) = some (t, ρ') := e2
  obtain ⟨m, ρ2, e4, e2⟩ := bnd_some e2
  obtain ⟨t', e5, e2⟩ := obd_some e2
  cases e2
  obtain ⟨c, rfl⟩ := ev_bl hb e4
  cases e5; cases e3
  refine ⟨ρ, F, As, _, ρ', e4, g, fun v F' As' A H' st g' r d => ?_⟩
  obtain ⟨_, r⟩ := r
  cases r
  exact ⟨_, rfl, k F' As' H' (st.less fun b h => .inl h) g'⟩
theorem cmp_rule {o : CmpOp} {p : Prim} (hu : X.A.units + 64 < cLine) (h : cmpP o = some p) : OpR X (compareOp o) (R2P X.K Cl p) ∧ p.isB = true ∧ o ≠ .In ∧ o ≠ .NotIn := by
  cases o <;> first
    | (cases h; done)
    | (cases h; exact ⟨q_eq hu, rfl, by decide, by decide⟩)
    | (cases h; exact ⟨q_ne hu, rfl, by decide, by decide⟩)
    | (cases h; exact ⟨q_lt, rfl, by decide, by decide⟩)
    | (cases h; exact ⟨q_le, rfl, by decide, by decide⟩)
    | (cases h; exact ⟨q_gt, rfl, by decide, by decide⟩)
    | (cases h; exact ⟨q_ge, rfl, by decide, by decide⟩)
theorem snd_cmp {o : CmpOp} {p : Prim} {a b : Expr} {ea eb : E} {pos : Pos} (hu : X.A.units + 64 < cLine) (h : cmpP o = some p) (ha : PE X a (tV X.K Cl ea.vs ea.slot? (ev G ea))) (hb : PE X b (tV X.K Cl eb.vs eb.slot? (ev G eb))) :
    PE X (.Compare a [o] [b] pos) (tE X.K Cl (E.op p (.cons ea (.cons eb .nil))).vs (ev G (.op p (.cons ea (.cons eb .nil))))) ∧ PT X (.Compare a [o] [b] pos) (tCd X.K Cl (evC G (.val (.op p (.cons ea (.cons eb .nil)))))) := by
  obtain ⟨rule, hp, n1, n2⟩ := cmp_rule (X := X) (Cl := Cl) hu h
  refine ⟨(pe_cmpR rule ha hb (nomark b n1 n2)).imp fun _ _ _ q => evs2 (op_end q), (pt_cmpR rule ha hb (nomark b n1 n2)).imp fun _ _ _ q => ?_⟩
  exact evs2 (op_end (tE_pu (p := false) (fun z => by cases z) (test_end (e := .op p _) hp q)))
theorem in_rule {o : CmpOp} {p : Prim} (h : inP o = some p) : OpR X (compareOp o) (R2P X.K Cl p) ∧ p.isB = true := by
  cases o <;> first
    | (cases h; done)
    | (cases h; exact ⟨q_inn false op_in_seq fun _ _ => rfl, rfl⟩)
    | (cases h; exact ⟨q_inn true op_notIn_seq fun _ _ => rfl, rfl⟩)
    | (cases h; exact ⟨q_isb, rfl⟩)
    | (cases h; exact ⟨q_notb, rfl⟩)
theorem snd_in {o : CmpOp} {p : Prim} {a b : Expr} {ea eb : E} {pos : Pos} (h : inP o = some p) (hm : behindInMarks o b = false) (ha : PE X a (tV X.K Cl ea.vs ea.slot? (ev G ea))) (hb : PE X b (tV X.K Cl eb.vs eb.slot? (ev G eb))) :
    PE X (.Compare a [o] [b] pos) (tE X.K Cl (E.op p (.cons ea (.cons eb .nil))).vs (ev G (.op p (.cons ea (.cons eb .nil))))) ∧ PT X (.Compare a [o] [b] pos) (tCd X.K Cl (evC G (.val (.op p (.cons ea (.cons eb .nil)))))) := by
  obtain ⟨rule, hp⟩ := in_rule (X := X) (Cl := Cl) h
  refine ⟨(pe_cmpR rule ha hb hm).imp fun _ _ _ q => evs2 (op_end q), (pt_cmpR rule ha hb hm).imp fun _ _ _ q => ?_⟩
  exact evs2 (op_end (tE_pu (p := false) (fun z => by cases z) (test_end (e := .op p _) hp q)))
theorem snd_rev {e b : Expr} {ea : E} {pos : Pos} (hb : isRev b = true) (ha : PE X e (tV X.K Cl ea.vs ea.slot? (ev G ea))) : PE X (.Subscript e b pos) (tE X.K Cl (E.op .rev (.cons ea .nil)).vs (ev G (.op .rev (.cons ea .nil)))) := by
  unfold isRev at hb
  split at hb
  · refine (pe_revB ha).imp fun σ H Q q => ?_
    refine (evs1 (op_end q)).mono fun x H1 q1 => ?_
    obtain ⟨F, ts, m, sF, r, e, k⟩ := q1
    obtain ⟨a, rfl, ra⟩ := r.one
    have e : pRev a = some m := e
    unfold pRev at e
    split at e
    · cases e
      obtain ⟨p, vs, rfl, hp, z1, r1⟩ := ra.lst_ sF
      exact ⟨p, vs, rfl, .inl ⟨SqL.of hp, fun d hd => k.newL sF hd (reps_rev r1) (by rw [List.length_reverse, ← r1.length, r1.length]; exact z1)⟩⟩
    · cases e
      obtain ⟨p, vs, rfl, hp, z1, r1⟩ := ra.tup_
      exact ⟨p, vs, rfl, .inr ⟨sqT_mono sF hp, fun d hd => k.newT sF hd (reps_rev r1) (by rw [List.length_reverse]; exact z1)⟩⟩
    · cases e
  · cases hb
theorem snd_isN {o : CmpOp} {p : Prim} {a : Expr} {ea : E} {pos p2 : Pos} {j : Nat} (h : (o = .Is ∧ p = .isN) ∨ (o = .IsNot ∧ p = .notN)) (ha : PE X a (tV X.K Cl ea.vs ea.slot? (ev G ea))) :
    PE X (.Compare a [o] [.Constant .none j p2] pos) (tE X.K Cl (E.op p (.cons ea .nil)).vs (ev G (.op p (.cons ea .nil)))) ∧ PT X (.Compare a [o] [.Constant .none j p2] pos) (tCd X.K Cl (evC G (.val (.op p (.cons ea .nil))))) := by
  rcases h with ⟨rfl, rfl⟩ | ⟨rfl, rfl⟩
  · refine ⟨(pe_cmpR (q_isN (Cl := Cl)) ha pe_non (nomark _)).imp fun _ _ _ q => (evs1 (op_end q)).mono fun _ _ q => ⟨rfl, q⟩, (pt_cmpR (q_isN (Cl := Cl)) ha pe_non (nomark _)).imp fun _ _ _ q => ?_⟩
    exact (evs1 (op_end (tE_pu (p := false) (fun z => by cases z) (test_end (e := .op .isN _) rfl q)))).mono fun _ _ q => ⟨rfl, q⟩
  · refine ⟨(pe_cmpR (q_notN (Cl := Cl)) ha pe_non (nomark _)).imp fun _ _ _ q => (evs1 (op_end q)).mono fun _ _ q => ⟨rfl, q⟩, (pt_cmpR (q_notN (Cl := Cl)) ha pe_non (nomark _)).imp fun _ _ _ q => ?_⟩
    exact (evs1 (op_end (tE_pu (p := false) (fun z => by cases z) (test_end (e := .op .notN _) rfl q)))).mono fun _ _ q => ⟨rfl, q⟩
theorem marks_of {o o' : CmpOp} {y z : Expr} (h1 : o' ≠ .In) (h2 : o' ≠ .NotIn) : lastMarks [o, o'] [y, z] = false := nobehind z h1 h2
theorem chain_end {p q : Prim} {ea eb ec : E} {Q : VK} (h : tE K Cl false (ev G (.chain p q ea eb ec)) σ H Q) :
    tChain (R2P K Cl p) (R2P K Cl q) (tF K Cl false fun ρ => f1 (ev G ea ρ)) (tF K Cl false fun ρ => f1 (ev G eb ρ)) (tF K Cl false fun ρ => f1 (ev G ec ρ)) σ H Q := by
  obtain ⟨ρ, F, As, m, ρ', e1, g, k⟩ := h
  unfold ev at e1
  obtain ⟨x, ρ1, e2, e1⟩ := bnd_some e1
  obtain ⟨y, ρ2, e3, e1⟩ := bnd_some e1
  obtain ⟨r, e4, e1⟩ := obd_some e1
  refine ⟨ρ, F, As, x, ρ1, e2, g, fun v F1 As1 H1 st1 g1 r1 => ⟨ρ1, F1, As1, y, ρ2, e3, g1, fun v2 F2 As2 H2 st2 g2 r2 => ⟨F2, [x, y], r, g2.same, .cons (.fz (r1.mono st2.hf)) (.cons (.fz r2) .nil), e4, fun v3 F3 H3 A3 st3 s3 r3 => ?_⟩⟩⟩
  obtain ⟨g3, st3', d3⟩ := g2.after st3 s3
  have st := ((st1.trans st2).trans st3').weak (q := false) fun z => nomatch z
  split at e1
  · obtain ⟨_, r3⟩ := r3
    cases r3
    refine ⟨true, rfl, iteT ?_⟩
    obtain ⟨z, ρ3, e5, e1⟩ := bnd_some e1
    obtain ⟨r', e6, e1⟩ := obd_some e1
    cases e1
    refine ⟨ρ2, F3, As2, z, ρ', e5, g3, fun v4 F4 As4 H4 st4 g4 r4 => ⟨F4, [y, z], m, g4.same, .cons (.fz (r2.mono (st3.hf.trans st4.hf))) (.cons (.fz r4) .nil), e6, fun v5 F5 H5 A5 st5 s5 r5 => ?_⟩⟩
    obtain ⟨g5, st5', d5⟩ := g4.after st5 s5
    exact k v5 F5 As4 A5 H5 ((((st.less fun b h => .inl h).trans st4).trans st5').weak fun z => nomatch z) g5 r5 d5
  · obtain ⟨_, r3⟩ := r3
    cases r3
    cases e1
    exact ⟨false, rfl, iteF (k _ F3 As2 non H3 (st.less fun b h => .inl (h.elim id fun z => z.elim)) g3 ⟨fun _ h => h, .bl _⟩ fun _ h => h.elim)⟩
  · cases e1
theorem snd_chain {o o' : CmpOp} {p q : Prim} {x y z : Expr} {ea eb ec : E} {pos : Pos} (hu : X.A.units + 64 < cLine) (h : cmpP o = some p) (h' : cmpP o' = some q) (ha : PE X x (tE X.K Cl ea.vs (ev G ea))) (hb : PE X y (tE X.K Cl eb.vs (ev G eb)))
    (hc : PE X z (tE X.K Cl ec.vs (ev G ec))) :
    PE X (.Compare x [o, o'] [y, z] pos) (tE X.K Cl false (ev G (.chain p q ea eb ec))) ∧ PT X (.Compare x [o, o'] [y, z] pos) (tCd X.K Cl (evC G (.val (.chain p q ea eb ec)))) := by
  obtain ⟨r1, p1, n1, n2⟩ := cmp_rule (X := X) (Cl := Cl) hu h
  obtain ⟨r2, p2, n3, n4⟩ := cmp_rule (X := X) (Cl := Cl) hu h'
  exact ⟨(pe_chain r1 r2 ha.keptN hb.keptN hc.keptN (marks_of n3 n4)).imp fun _ _ _ q => chain_end q, (pt_chain r1 r2 ha.keptN hb.keptN hc.keptN (marks_of n3 n4)).imp fun _ _ _ q => chain_end (test_end (e := .chain _ _ _ _ _) p2 q)⟩

/-! calls of built-ins -/
theorem rp_one {p : Prim} (hp : ∀ ts m, primSem p ts = some m → ∃ t, ts = [t]) {xs : List V} {Q : VK} (h : RP K Cl p xs H Q) : (∃ x, xs = [x]) ∧ RP K Cl p xs H Q := by
  refine ⟨?_, h⟩
  obtain ⟨F, ts, m, _, r, e, _⟩ := h
  obtain ⟨t, rfl⟩ := hp ts m e
  cases r with
  | cons a b => cases b; exact ⟨_, rfl⟩
theorem rp_two {p : Prim} (hp : ∀ ts m, primSem p ts = some m → ∃ t u, ts = [t, u]) {xs : List V} {Q : VK} (h : RP K Cl p xs H Q) : (∃ x y, xs = [x, y]) ∧ RP K Cl p xs H Q := by
  refine ⟨?_, h⟩
  obtain ⟨F, ts, m, _, r, e, _⟩ := h
  obtain ⟨t, u, rfl⟩ := hp ts m e
  cases r with
  | cons a b => cases b with
    | cons c d => cases d; exact ⟨_, _, rfl⟩
theorem CallR.imp {f : Value} {r r' : List V → Hp → VK → Prop} (h : CallR X f r) (w : ∀ xs H Q, r' xs H Q → r xs H Q) : CallR X f r' := fun pins s σ H xs us Q I v q => h pins s σ H xs us Q I v (w xs H Q q)
theorem rp_three {p : Prim} (hp : ∀ ts m, primSem p ts = some m → ∃ t u w, ts = [t, u, w]) {xs : List V} {Q : VK} (h : RP K Cl p xs H Q) : (∃ x y z, xs = [x, y, z]) ∧ RP K Cl p xs H Q := by
  refine ⟨?_, h⟩
  obtain ⟨F, ts, m, _, r, e, _⟩ := h
  obtain ⟨t, u, w, rfl⟩ := hp ts m e
  cases r with
  | cons a b => cases b with
    | cons c d => cases d with
      | cons e f => cases f; exact ⟨_, _, _, rfl⟩
theorem three_max : ∀ ts m, primSem .max3 ts = some m → ∃ t u w, ts = [t, u, w] := fun ts m e => by
  unfold primSem at e
  split at e <;> first
    | (cases e; done)
    | exact ⟨_, _, _, rfl⟩
    | (rename_i h; cases h)
def oneP : Prim → Bool
  | .len => true | .abs => true | .int => true | .sum => true | .max1 => true | .min1 => true | .sorted => true | .all => true | .any => true | .list => true | .tuple => true
  | _ => false
theorem one_of {p : Prim} (h : oneP p = true) : ∀ ts m, primSem p ts = some m → ∃ t, ts = [t] := fun ts m e => by
  unfold primSem at e
  split at e <;> first
    | (cases e; done)
    | exact ⟨_, rfl⟩
    | (exact Bool.noConfusion h)
theorem two_max : ∀ ts m, primSem .max2 ts = some m → ∃ t u, ts = [t, u] := fun ts m e => by
  unfold primSem at e
  split at e <;> first
    | (cases e; done)
    | exact ⟨_, _, rfl⟩
    | (rename_i h; cases h)
theorem two_min : ∀ ts m, primSem .min2 ts = some m → ∃ t u, ts = [t, u] := fun ts m e => by
  unfold primSem at e
  split at e <;> first
    | (cases e; done)
    | exact ⟨_, _, rfl⟩
    | (rename_i h; cases h)
theorem snd_blt (ok : Ok Z G Cl sc so X) {x : Str} {p : Prim} {es : Es} {args : List Expr} {pp pos : Pos} (hb : bltN p = some (x, args.length)) (hg : glB sc x = true) (hx : Z.bl.contains x = true) (ha : PA X args (tA X.K Cl es.vs (evs G es)))
    (hc : chkEs Z es sc so args = true) : PE X (.Call (.Name x pp) args [] pos) (tE X.K Cl (E.op p es).vs (ev G (.op p es))) := by
  obtain ⟨gl, hd, hn⟩ := ok.gl hg
  have hm := ok.bl x (List.contains_iff_mem.mp hx)
  cases args with
  | nil => cases p <;> cases hb
  | cons e r =>
    have he : starEach (e :: r) X.env = (false, eval e X.env) :: starEach r X.env := by
      cases es with
      | nil => unfold chkEs at hc; cases hc
      | cons _ _ => unfold chkEs at hc; rw [Bool.and_eq_true] at hc; exact star_of hc.1
    have hpl : (backTo pos (starEach r X.env)).any (·.1) = false := by
      cases es with
      | nil => unfold chkEs at hc; cases hc
      | cons _ _ => unfold chkEs at hc; rw [Bool.and_eq_true] at hc; exact plain_of hc.2
    have end1 : ∀ {id : String}, oneP p = true → bootBuiltins x = some (.builtin id) → CallR X (.builtin id) (fun xs H Q => (∃ x, xs = [x]) ∧ RP X.K Cl p xs H Q) → PE X (.Call (.Name x pp) (e :: r) [] pos) (tE X.K Cl (E.op p es).vs (ev G (.op p es))) := fun ho hv rule =>
      (pe_callB (CallR.imp rule fun _ _ _ q => rp_one (one_of ho) q) gl hm hv ha hn hd he hpl).imp fun _ _ _ q => op_end q
    have endT : ∀ {id : String}, oneP p = true → bootBuiltins x = some (.type id) → CallR X (.type id) (fun xs H Q => (∃ x, xs = [x]) ∧ RP X.K Cl p xs H Q) → PE X (.Call (.Name x pp) (e :: r) [] pos) (tE X.K Cl (E.op p es).vs (ev G (.op p es))) := fun ho hv rule =>
      (pe_callTy (CallR.imp rule fun _ _ _ q => rp_one (one_of ho) q) gl hm hv ha hn hd he hpl).imp fun _ _ _ q => op_end q
    have hb1 := congrArg (fun z => z.map Prod.fst) hb
    cases p <;> first
      | (cases hb; done)
      | skip
    all_goals (have hx1 : _ = x := Option.some.inj hb1; subst hx1)
    · exact (pe_callB (CallR.imp (c_max3 ok.calm) fun _ _ _ q => rp_three three_max q) gl hm (by decide +kernel) ha hn hd he hpl).imp fun _ _ _ q => op_end q
    · exact end1 rfl (by decide +kernel) c_len
    · exact end1 rfl (by decide +kernel) c_abs
    · exact endT rfl (by decide +kernel) c_int
    · exact end1 rfl (by decide +kernel) (c_sum ok.calm)
    · exact end1 rfl (by decide +kernel) (c_max1 ok.calm)
    · exact end1 rfl (by decide +kernel) (c_min1 ok.calm ok.units)
    · exact (pe_callB (CallR.imp (c_max2 ok.calm) fun _ _ _ q => rp_two two_max q) gl hm (by decide +kernel) ha hn hd he hpl).imp fun _ _ _ q => op_end q
    · exact (pe_callB (CallR.imp (c_min2 ok.calm) fun _ _ _ q => rp_two two_min q) gl hm (by decide +kernel) ha hn hd he hpl).imp fun _ _ _ q => op_end q
    · exact end1 rfl (by decide +kernel) c_sorted
    · exact end1 rfl (by decide +kernel) (c_all ok.calm)
    · exact end1 rfl (by decide +kernel) (c_any ok.calm)
    · exact endT rfl (by decide +kernel) (c_list ok.calm)
    · exact endT rfl (by decide +kernel) c_tuple
end
end Mk
set_option maxHeartbeats 4000000
/-! Mk: each construct, the second part. -/
namespace Mk
open PySem L2
section
variable {K : PySem.W.Frag} {Cl : Nat → Option ClsI} {F H : Hp} {ρ : Slots} {σ : St} {As : Nat → AS} {G : Gc}
/-- a slice's end -/
def tOx (K : PySem.W.Frag) (Cl : Nat → Option ClsI) (pu : Bool) (f : Slots → Option (Option Int × Slots)) : TO := fun σ H Q => ∃ ρ F As o ρ', f ρ = some (o, ρ') ∧ Good K Cl ρ σ F As H ∧
  ∀ F' As' H', Step pu F (Own As) H F' (Own As') H' → Good K Cl ρ' σ F' As' H' → Q o H'
variable {Z : Zs} {sc : Scope} {so : Str → Bool} {X : Cx}
theorem snd_ono : PO X none (tOx X.K Cl true (evO G .no)) := po_none.imp fun σ H Q q => by
  obtain ⟨ρ, F, As, o, ρ', e, g, k⟩ := q
  cases e
  exact k F As H Step.refl g
theorem snd_osome {a : Expr} {ea : E} (ha : PE X a (tV X.K Cl ea.vs ea.slot? (ev G ea))) : PO X (some a) (tOx X.K Cl ea.vs (evO G (.some ea))) := (po_some ha).imp fun σ H Q q => by
  obtain ⟨ρ, F, As, o, ρ', e, g, k⟩ := q
  unfold evO at e
  obtain ⟨t, ρ1, e1, e⟩ := bnd_some e
  obtain ⟨i, e2, e⟩ := obd_some e
  cases e
  refine ⟨ρ, F, As, t, ρ', e1, g, fun v F' As' H' st g' r _ => ?_⟩
  unfold intOf at e2
  split at e2
  · cases e2; cases r.int_
    exact ⟨_, rfl, k F' As' H' st g'⟩
  · cases e2
theorem snd_sl {a : Expr} {l u : Option Expr} {x : E} {lo hi : Op} {p2 pos : Pos} (ha : PE X a (tV X.K Cl x.vs x.slot? (ev G x))) (hl : PO X l (tOx X.K Cl lo.vs (evO G lo))) (hu : PO X u (tOx X.K Cl hi.vs (evO G hi))) :
    PE X (.Subscript a (.Slice l u none p2) pos) (tE X.K Cl (E.sl x lo hi).vs (ev G (.sl x lo hi))) := (pe_slice q_slice ha hl hu).imp fun σ H Q q => by
  obtain ⟨ρ, F, As, m, ρ', e, g, k⟩ := q
  unfold ev at e
  split at e
  · rename_i hv
    obtain ⟨t, ρ1, e1, e⟩ := bnd_some e
    obtain ⟨o1, ρ2, e2, e⟩ := bnd_some e
    obtain ⟨o2, ρ3, e3, e⟩ := bnd_some e
    obtain ⟨m', e4, e⟩ := obd_some e
    cases e
    refine ⟨ρ, F, As, t, ρ1, e1, g, fun v F1 As1 H1 st1 g1 r1 r1' => ⟨ρ1, F1, As1, o1, ρ2, e2, g1, fun F2 As2 H2 st2 g2 => ⟨ρ2, F2, As2, o2, ρ', e3, g2, fun F3 As3 H3 st3 g3 => ?_⟩⟩⟩
    have r3 : Rep1 X.K F3 H3 t v := by
      rcases Bool.or_eq_true_iff.mp hv with hv | hv
      · rw [Bool.and_eq_true] at hv
        exact (r1.mono st2.hf (st2.pur hv.1)).mono st3.hf (st3.pur hv.2)
      · exact .fz ((r1' (by simpa using hv)).mono (st2.hf.trans st3.hf))
    refine ⟨F3, t, m, g3.same, r3, e4, fun v4 F4 H4 A4 st4 s4 r4 => ?_⟩
    obtain ⟨g4, st4', d4⟩ := g3.after st4 s4
    refine k v4 F4 As3 A4 H4 ((((st1.trans st2).trans st3).trans st4').weak fun h => ?_) g4 r4 d4
    have h : (x.vs && lo.vs && hi.vs) = true := h
    rw [h]; rfl
  · cases e
/-- list(range(..)), tuple(range(..)) -/
theorem rg_new {a b : Int} {xs : List T} {F1 H1 : Hp} {As1 : Nat → AS} {ρ' : Slots} {tup : Bool} (h : rangeT a b = some xs) (g1 : Good K Cl ρ' σ F1 As1 H1) : L2.RgOk a b ∧ ∀ q, H1 q = none →
    ∃ F2 A2, Step true F1 (Own As1) H1 F2 ((Own As1).or A2) (upd H1 q (if tup = true then .tup (L2.rgV a b) else .lst (L2.rgV a b))) ∧ Good K Cl ρ' σ F2 As1 (upd H1 q (if tup = true then .tup (L2.rgV a b) else .lst (L2.rgV a b))) ∧
      RepM K Cl F2 (upd H1 q (if tup = true then .tup (L2.rgV a b) else .lst (L2.rgV a b))) (sqM tup xs) (.ref q) A2 ∧ ∀ c, A2 c → ¬ Own As1 c := by
  unfold rangeT at h
  split at h
  · rename_i hb
    cases h
    have hz : (b - a).toNat ≤ sizeLine := Nat.le_of_lt hb.2.2.2.2
    have hs : sizeLine = 2 ^ 24 := by decide +kernel
    have hl : (L2.rgV a b).length ≤ sizeLine := by rw [L2.rgV_length]; exact hz
    have hr : ∀ F : Hp, RepTs K F ((List.range (b - a).toNat).map fun i => T.int (a + (i : Nat))) (L2.rgV a b) := fun F => by
      unfold L2.rgV
      have := RepTs.ints (K := K) (F := F) ((List.range (b - a).toNat).map fun (i : Nat) => a + (i : Int))
      rw [List.map_map, List.map_map] at this
      exact this
    refine ⟨⟨hb.1, hb.2.1, hb.2.2.1, hb.2.2.2.1, by rw [← hs]; exact hz⟩, fun q hq => ?_⟩
    cases tup with
    | false =>
      obtain ⟨g2, st2, d2⟩ := g1.after (new_own (o := .lst (L2.rgV a b)) g1.same hq) (g1.same.trans (Same.push hq))
      exact ⟨_, _, st2, g2, ⟨q, _, rfl, fun _ => Iff.rfl, g1.same.free hq, upd_same, hl, hr _⟩, d2⟩
    | true =>
      have st2 := new_frz (o := .tup (L2.rgV a b)) g1.same hq
      have s2 : Same (upd F1 q (.tup (L2.rgV a b))) (upd H1 q (.tup (L2.rgV a b))) := fun c o e => by
        by_cases hc : c = q
        · rw [hc, upd_same] at e; rw [hc, upd_same]; exact e
        · rw [upd_ne hc] at e ⊢; exact g1.same c o e
      obtain ⟨g2, st2', d2⟩ := g1.after st2 s2
      exact ⟨_, _, st2', g2, ⟨fun _ h => h, .tup (SqT.of upd_same) hl (hr _)⟩, d2⟩
  · cases h
theorem rgl_end {tup : Bool} {a : E} {Q : VK} (h : tE K Cl false (ev G (.rgl tup a)) σ H Q) : tF K Cl false (fun ρ => f1 (ev G a ρ)) σ H fun x H1 => ∃ n, x = .int n ∧ L2.RgOk 0 n ∧ ∀ q, H1 q = none → Q (.ref q) (upd H1 q (if tup = true then .tup (L2.rgV 0 n) else .lst (L2.rgV 0 n))) := by
  obtain ⟨ρ, F, As, m, ρ', e, g, k⟩ := h
  unfold ev at e
  obtain ⟨t, ρ1, e1, e⟩ := bnd_some e
  obtain ⟨n, e2, e⟩ := obd_some e
  obtain ⟨xs, e3, e⟩ := obd_some e
  cases e
  refine ⟨ρ, F, As, t, ρ', e1, g, fun v F1 As1 H1 st1 g1 r1 => ?_⟩
  unfold intOf at e2
  split at e2
  · cases e2; cases r1
    obtain ⟨rk, new⟩ := rg_new (tup := tup) e3 g1
    refine ⟨_, rfl, rk, fun q hq => ?_⟩
    obtain ⟨F2, A2, st2, g2, r2, d2⟩ := new q hq
    exact k _ F2 As1 A2 _ ((st1.trans st2).weak fun z => by cases z) g2 r2 d2
  · cases e2
theorem rgl2_end {tup : Bool} {a b : E} {Q : VK} (h : tE K Cl false (ev G (.rgl2 tup a b)) σ H Q) : tF K Cl false (fun ρ => f1 (ev G a ρ)) σ H fun x H1 => tF K Cl false (fun ρ => f1 (ev G b ρ)) σ H1 fun y H2 => ∃ i j, x = .int i ∧ y = .int j ∧ L2.RgOk i j ∧
    ∀ q, H2 q = none → Q (.ref q) (upd H2 q (if tup = true then .tup (L2.rgV i j) else .lst (L2.rgV i j))) := by
  obtain ⟨ρ, F, As, m, ρ', e, g, k⟩ := h
  unfold ev at e
  obtain ⟨s, ρ1, e1, e⟩ := bnd_some e
  obtain ⟨t, ρ2, e4, e⟩ := bnd_some e
  obtain ⟨i, e2, e⟩ := obd_some e
  obtain ⟨j, e5, e⟩ := obd_some e
  obtain ⟨xs, e3, e⟩ := obd_some e
  cases e
  refine ⟨ρ, F, As, s, ρ1, e1, g, fun v F1 As1 H1 st1 g1 r1 => ⟨ρ1, F1, As1, t, ρ', e4, g1, fun w F2 As2 H2 st2 g2 r2 => ?_⟩⟩
  unfold intOf at e2 e5
  split at e2
  · cases e2; cases r1
    split at e5
    · cases e5; cases r2
      obtain ⟨rk, new⟩ := rg_new (tup := tup) e3 g2
      refine ⟨_, _, rfl, rfl, rk, fun q hq => ?_⟩
      obtain ⟨F3, A3, st3, g3, r3, d3⟩ := new q hq
      exact k _ F3 As2 A3 _ (((st1.trans st2).trans st3).weak fun z => by cases z) g3 r3 d3
    · cases e5
  · cases e2
theorem snd_rgl (ok : Ok Z G Cl sc so X) {tup : Bool} {l r : Str} {p1 p2 p3 pos : Pos} {x : Expr} {a : E} (hl : l = sqN tup) (g1 : glB sc l = true) (b1 : Z.bl.contains l = true) (hr : r = "range") (g2 : glB sc r = true) (b2 : Z.bl.contains r = true)
    (ha : PE X x (tE X.K Cl a.vs (ev G a))) (hs : ∀ es, starEach (x :: es) X.env = (false, eval x X.env) :: starEach es X.env) : PE X (.Call (.Name l p1) [.Call (.Name r p2) [x] [] p3] [] pos) (tE X.K Cl false (ev G (.rgl tup a))) := by
  subst hl hr
  have m1 := ok.bl _ (List.contains_iff_mem.mp b1)
  have m2 := ok.bl _ (List.contains_iff_mem.mp b2)
  have rg := L2.prg_1 (p := p2) (pos := p3) (ok.gl g2).1 m2 ha.keptN (hs [])
  cases tup with
  | true => exact (L2.pe_tupRg (p := p1) (pos := pos) ok.calm (ok.gl g1).1 m1 rg).imp fun σ H Q q => rgl_end q
  | false => exact (L2.pe_listRg (p := p1) (pos := pos) ok.calm (ok.gl g1).1 m1 rg).imp fun σ H Q q => rgl_end q
theorem snd_rgl2 (ok : Ok Z G Cl sc so X) {tup : Bool} {l r : Str} {p1 p2 p3 pos : Pos} {x y : Expr} {a b : E} (hl : l = sqN tup) (g1 : glB sc l = true) (b1 : Z.bl.contains l = true) (hr : r = "range") (g2 : glB sc r = true) (b2 : Z.bl.contains r = true)
    (ha : PE X x (tE X.K Cl a.vs (ev G a))) (hb : PE X y (tE X.K Cl b.vs (ev G b))) (hs : ∀ es, starEach (x :: es) X.env = (false, eval x X.env) :: starEach es X.env) (hs2 : ∀ es, starEach (y :: es) X.env = (false, eval y X.env) :: starEach es X.env) :
    PE X (.Call (.Name l p1) [.Call (.Name r p2) [x, y] [] p3] [] pos) (tE X.K Cl false (ev G (.rgl2 tup a b))) := by
  subst hl hr
  have m1 := ok.bl _ (List.contains_iff_mem.mp b1)
  have m2 := ok.bl _ (List.contains_iff_mem.mp b2)
  have hp : (backTo p3 (starEach [y] X.env)).any (·.1) = false := by rw [hs2]; rfl
  have rg := L2.prg_2 (p := p2) (pos := p3) (ok.gl g2).1 m2 ha.keptN hb.keptN (hs [y]) (hs2 []) hp
  cases tup with
  | true => exact (L2.pe_tupRg (p := p1) (pos := pos) ok.calm (ok.gl g1).1 m1 rg).imp fun σ H Q q => rgl2_end q
  | false => exact (L2.pe_listRg (p := p1) (pos := pos) ok.calm (ok.gl g1).1 m1 rg).imp fun σ H Q q => rgl2_end q
/-- a new tuple, a new list of what is kept -/
theorem snd_tup {es : Es} {elts : List Expr} {x1 : Nat} {pos : Pos} (h : PA X elts (tAf X.K Cl (evf G es))) : PE X (.Tuple elts x1 pos) (tE X.K Cl false (ev G (.tup es))) := (pe_tup h).imp fun σ H Q q => by
  obtain ⟨ρ, F, As, m, ρ', e, g, k⟩ := q
  unfold ev at e
  obtain ⟨ts, ρ1, e1, e⟩ := bnd_some e
  split at e
  · rename_i hz
    cases e
    refine ⟨ρ, F, As, ts, ρ', e1, g, fun vs F1 As1 H1 st1 g1 r1 => ⟨by rw [← r1.length]; exact hz, fun p hp => ?_⟩⟩
    have st2 := new_frz (o := .tup vs) g1.same hp
    have s2 : Same (upd F1 p (.tup vs)) (upd H1 p (.tup vs)) := fun b o e => by
      by_cases hb : b = p
      · rw [hb, upd_same] at e; rw [hb, upd_same]; exact e
      · rw [upd_ne hb] at e ⊢; exact g1.same b o e
    obtain ⟨g2, st2', d2⟩ := g1.after st2 s2
    exact k _ _ As1 non _ ((st1.trans st2').weak fun z => by cases z) g2 ⟨fun _ h => h, .tup (SqT.of upd_same) (by rw [← r1.length]; exact hz) (r1.mono st2.hf)⟩ d2
  · cases e
theorem snd_lst {es : Es} {elts : List Expr} {pos : Pos} (h : PA X elts (tAf X.K Cl (evf G es))) : PE X (.List elts pos) (tE X.K Cl false (ev G (.lst es))) := (pe_lst h).imp fun σ H Q q => by
  obtain ⟨ρ, F, As, m, ρ', e, g, k⟩ := q
  unfold ev at e
  obtain ⟨ts, ρ1, e1, e⟩ := bnd_some e
  split at e
  · rename_i hz
    cases e
    refine ⟨ρ, F, As, ts, ρ', e1, g, fun vs F1 As1 H1 st1 g1 r1 => ⟨by rw [← r1.length]; exact hz, fun p hp => ?_⟩⟩
    obtain ⟨g2, st2', d2⟩ := g1.after (new_own (o := .lst vs) g1.same hp) (g1.same.trans (Same.push hp))
    exact k _ _ As1 (fun b => b = p) _ ((st1.trans st2').weak fun z => by cases z) g2 ⟨p, vs, rfl, fun _ => Iff.rfl, g1.same.free hp, upd_same, by rw [← r1.length]; exact hz, r1⟩ d2
  · cases e
theorem snd_lst0 {pos : Pos} : PE X (.List [] pos) (tE X.K Cl true (ev G (.lst .nil))) := (pe_lst pa_nil).imp fun σ H Q q => by
  obtain ⟨ρ, F, As, m, ρ', e, g, k⟩ := q
  unfold ev at e
  obtain ⟨ts, ρ1, e1, e⟩ := bnd_some e
  unfold evf at e1
  cases e1
  split at e
  · cases e
    refine ⟨Nat.zero_le _, fun p hp => ?_⟩
    obtain ⟨g2, st2', d2⟩ := g.after (new_own (o := .lst []) g.same hp) (g.same.trans (Same.push hp))
    exact k _ _ As (fun b => b = p) _ st2' g2 ⟨p, [], rfl, fun _ => Iff.rfl, g.same.free hp, upd_same, Nat.zero_le _, .nil⟩ d2
  · cases e
theorem snd_ite {c : C} {a b : E} {t x y : Expr} {pos : Pos} (hc : PT X t (tCd X.K Cl (evC G c))) (ha : PE X x (tE X.K Cl a.vs (ev G a))) (hb : PE X y (tE X.K Cl b.vs (ev G b))) :
    PE X (.IfExp t x y pos) (tE X.K Cl false (ev G (.ite c a b))) := (pe_ifExp hc ha hb).imp fun σ H Q q => by
  obtain ⟨ρ, F, As, m, ρ', e, g, k⟩ := q
  unfold ev at e
  obtain ⟨d, ρ1, e1, e⟩ := bnd_some e
  refine ⟨ρ, F, As, d, ρ1, e1, g, fun F1 As1 H1 st1 g1 => ?_⟩
  cases d with
  | true => exact iteT ⟨ρ1, F1, As1, m, ρ', e, g1, fun v F2 As2 A H2 st2 g2 r d => k v F2 As2 A H2 ((st1.trans st2).weak fun z => by cases z) g2 r d⟩
  | false => exact iteF ⟨ρ1, F1, As1, m, ρ', e, g1, fun v F2 As2 A H2 st2 g2 r d => k v F2 As2 A H2 ((st1.trans st2).weak fun z => by cases z) g2 r d⟩
theorem view_of {m : M} {t : T} {v : V} {A : AS} {d : Bool} (r : RepM K Cl F H m v A) (e : m.frz = some t) (ht : tru t = some d) : Rep1 K F H t v := by
  cases m with
  | bx x => cases e; exact Rep1.of (show RepB K F H x v A from r)
  | ob c fs =>
    have e : (frzFs fs).map (T.ob c ·) = some t := e
    cases q : frzFs fs with
    | none => rw [q] at e; cases e
    | some ts => rw [q] at e; cases e; cases ht
theorem snd_and {a b : E} {x y : Expr} {r : List Expr} {pos : Pos} (ha : PE X x (tE X.K Cl a.vs (ev G a))) (hb : PE X (.BoolOp .And (y :: r) pos) (tE X.K Cl b.vs (ev G b))) :
    PE X (.BoolOp .And (x :: y :: r) pos) (tE X.K Cl false (ev G (.and a b))) := (pe_andT ha hb).imp fun σ H Q q => by
  obtain ⟨ρ, F, As, m, ρ', e, g, k⟩ := q
  unfold ev at e
  obtain ⟨m1, ρ1, e1, e⟩ := bnd_some e
  obtain ⟨t, e2, e⟩ := obd_some e
  obtain ⟨d, e3, e⟩ := obd_some e
  refine ⟨ρ, F, As, m1, ρ1, e1, g, fun v F1 As1 A1 H1 st1 g1 r1 d1 => ⟨d, tru_run g1.same (view_of r1 e2 e3) e3, ?_⟩⟩
  cases d with
  | true =>
    exact iteT ⟨ρ1, F1, As1, m, ρ', e, g1, fun v F2 As2 A H2 st2 g2 r d => k v F2 As2 A H2 (((st1.less fun b h => .inl h).trans st2).weak fun z => by cases z) g2 r d⟩
  | false =>
    cases e
    exact iteF (k v F1 As1 A1 H1 (st1.weak fun z => by cases z) g1 r1 d1)
theorem snd_or {a b : E} {x y : Expr} {r : List Expr} {pos : Pos} (ha : PE X x (tE X.K Cl a.vs (ev G a))) (hb : PE X (.BoolOp .Or (y :: r) pos) (tE X.K Cl b.vs (ev G b))) :
    PE X (.BoolOp .Or (x :: y :: r) pos) (tE X.K Cl false (ev G (.or a b))) := (pe_orT ha hb).imp fun σ H Q q => by
  obtain ⟨ρ, F, As, m, ρ', e, g, k⟩ := q
  unfold ev at e
  obtain ⟨m1, ρ1, e1, e⟩ := bnd_some e
  obtain ⟨t, e2, e⟩ := obd_some e
  obtain ⟨d, e3, e⟩ := obd_some e
  refine ⟨ρ, F, As, m1, ρ1, e1, g, fun v F1 As1 A1 H1 st1 g1 r1 d1 => ⟨d, tru_run g1.same (view_of r1 e2 e3) e3, ?_⟩⟩
  cases d with
  | false =>
    exact iteF ⟨ρ1, F1, As1, m, ρ', e, g1, fun v F2 As2 A H2 st2 g2 r d => k v F2 As2 A H2 (((st1.less fun b h => .inl h).trans st2).weak fun z => by cases z) g2 r d⟩
  | true =>
    cases e
    exact iteT (k v F1 As1 A1 H1 (st1.weak fun z => by cases z) g1 r1 d1)
theorem snd_not {a : E} {x : Expr} {pos : Pos} (ha : PE X x (tV X.K Cl a.vs a.slot? (ev G a))) : PE X (.UnaryOp .Not x pos) (tE X.K Cl false (ev G (.not a))) := (pe_notT ha).imp fun σ H Q q => by
  obtain ⟨ρ, F, As, m, ρ', e, g, k⟩ := q
  unfold ev at e
  obtain ⟨t, ρ1, e1, e⟩ := bnd_some e
  obtain ⟨d, e3, e⟩ := obd_some e
  cases e
  refine ⟨ρ, F, As, t, ρ', e1, g, fun v F1 As1 H1 st1 g1 r1 _ => ⟨d, tru_run g1.same r1 e3, ?_⟩⟩
  exact k _ F1 As1 non H1 ((st1.weak fun z => by cases z).less fun b h => h.elim id fun z => z.elim) g1 ⟨fun _ h => h, .bl _⟩ fun _ h => h.elim

/-! isinstance -/
theorem tyB_boot {x : Str} {t : Ty} (h : tyB x = some t) : bootBuiltins x = some (.type t.val) := by
  unfold tyB at h
  split at h
  · rename_i e; subst e; cases h; decide +kernel
  split at h
  · rename_i e; subst e; cases h; decide +kernel
  split at h
  · rename_i e; subst e; cases h; decide +kernel
  split at h
  · rename_i e; subst e; cases h; decide +kernel
  split at h
  · rename_i e; subst e; cases h; decide +kernel
  cases h
def tTys (cs : List Ty) : TA := fun _ H Q => Q (cs.map fun c => V.ty c.val) H
theorem snd_names (ok : Ok Z G Cl sc so X) : ∀ {cs : List Ty} {es : List Expr}, namesB Z sc cs es = true → PA X es (tTys cs) ∧ (∀ env pos, (backTo pos (starEach es env)).any (·.1) = false) := by
  intro cs
  induction cs with
  | nil =>
    intro es h
    cases es with
    | nil => exact ⟨pa_nil, fun _ _ => rfl⟩
    | cons _ _ => unfold namesB at h; cases h
  | cons c cs ih =>
    intro es h
    cases es with
    | nil => unfold namesB at h; cases h
    | cons e es =>
      cases e with
      | Name x p =>
        unfold namesB at h
        simp only [Bool.and_eq_true, beq_iff_eq] at h
        obtain ⟨gl, hd, hn⟩ := ok.gl h.1.1.2
        have hm := ok.bl x (List.contains_iff_mem.mp h.1.2)
        obtain ⟨q1, q2⟩ := ih h.2
        exact ⟨(pa_cons (pe_bltn (v := .ty c.val) gl hm (tyB_boot h.1.1.1) rfl hn hd) q1).imp fun _ _ _ q => q, fun env pos => q2 env pos⟩
      | _ => unfold namesB at h; cases h
theorem snd_isi (ok : Ok Z G Cl sc so X) {a : E} {cs : List Ty} {many : Bool} {x c : Expr} {pp pos : Pos} {f : Str} (hf : f = "isinstance") (hg : glB sc f = true) (hx : Z.bl.contains f = true) (ha : PE X x (tV X.K Cl a.vs a.slot? (ev G a)))
    (hxs : ∀ es env, starEach (x :: es) env = (false, eval x env) :: starEach es env)
    (hc : (many = false ∧ ∃ t p, c = .Name t p ∧ namesB Z sc cs [.Name t p] = true) ∨ (many = true ∧ ∃ ts j p, c = .Tuple ts j p ∧ namesB Z sc cs ts = true ∧ cs.length ≤ 10)) :
    PE X (.Call (.Name f pp) [x, c] [] pos) (tE X.K Cl false (ev G (.isi a cs many))) := by
  obtain ⟨gl, hd, hn⟩ := ok.gl hg
  have hm := ok.bl f (List.contains_iff_mem.mp hx)
  subst hf
  have hv : bootBuiltins ("isinstance" : Str) = some (.builtin "isinstance") := by decide +kernel
  rcases hc with ⟨rfl, t, p, rfl, hns⟩ | ⟨rfl, ts, j, p, rfl, hns, hz⟩
  · obtain ⟨pn, pl⟩ := snd_names ok hns
    refine (pe_callB call_isi gl hm hv (pa_cons ha pn (hxs _ _)) hn hd (hxs _ _) (pl _ _)).imp fun σ H Q q => ?_
    obtain ⟨ρ, F, As, m, ρ', e, g, k⟩ := q
    unfold ev at e
    obtain ⟨t', ρ1, e1, e⟩ := bnd_some e
    obtain ⟨m', e2, e⟩ := obd_some e
    cases e
    obtain ⟨c0, e3, e2⟩ := bind_some e2
    cases rb_ e2
    refine ⟨ρ, F, As, t', ρ', e1, g, fun v F1 As1 H1 st1 g1 r1 _ => ?_⟩
    cases cs with
    | nil => unfold namesB at hns; cases hns
    | cons c1 r =>
      cases r with
      | cons _ _ => unfold namesB at hns; simp [namesB] at hns
      | nil =>
        refine ⟨v, .ty c1.val, _, _, _, rfl, .ty _, tyX_of g1.same r1 e3, kit_one c0 c1, ?_⟩
        have k' := k (.bl (c0.isA c1)) F1 As1 non H1 ((st1.weak fun z => by cases z).less fun b h => h.elim id fun z => z.elim) g1 ⟨fun _ h => h, by
          have e : ([c1].any (c0.isA ·)) = c0.isA c1 := by simp
          rw [e]; exact .bl _⟩ fun _ h => h.elim
        exact k'
  · obtain ⟨pn, pl⟩ := snd_names ok hns
    have hs2 : ∀ es env, starEach (Expr.Tuple ts j p :: es) env = (false, eval (Expr.Tuple ts j p) env) :: starEach es env := fun _ _ => rfl
    refine (pe_callB call_isiT gl hm hv (pa_cons ha (pa_cons (pe_tup pn) pa_nil (hs2 _ _)) (hxs _ _)) hn hd (hxs _ _) rfl).imp fun σ H Q q => ?_
    obtain ⟨ρ, F, As, m, ρ', e, g, k⟩ := q
    unfold ev at e
    obtain ⟨t', ρ1, e1, e⟩ := bnd_some e
    obtain ⟨m', e2, e⟩ := obd_some e
    cases e
    obtain ⟨c0, e3, e2⟩ := bind_some e2
    cases rb_ e2
    refine ⟨ρ, F, As, t', ρ', e1, g, fun v F1 As1 H1 st1 g1 r1 _ => ?_⟩
    refine ⟨by rw [List.length_map]; exact Nat.le_trans hz (by decide), fun d hd => ?_⟩
    have st2 := new_frz (o := .tup (cs.map fun c => V.ty c.val)) g1.same hd
    have s2 : Same (upd F1 d (.tup (cs.map fun c => V.ty c.val))) (upd H1 d (.tup (cs.map fun c => V.ty c.val))) := fun b o e => by
      by_cases hb : b = d
      · rw [hb, upd_same] at e; rw [hb, upd_same]; exact e
      · rw [upd_ne hb] at e ⊢; exact g1.same b o e
    obtain ⟨g2, st2', d2⟩ := g1.after st2 s2
    have pr : ∀ cs : List Ty, Paired ClsV (cs.map fun c => V.ty c.val) (cs.map fun c => Value.type c.val) := fun cs => by
      induction cs with
      | nil => exact .nil
      | cons c r ih => exact .cons (.ty _) ih
    refine ⟨v, d, _, _, _, _, rfl, upd_same, pr cs, tyX_of s2 (r1.mono st2.hf (Same.push hd)) e3, kit_any c0 cs, ?_⟩
    exact k (.bl _) _ As1 non _ ((st1.trans st2').weak fun z => by cases z) g2 ⟨fun _ h => h, .bl _⟩ d2

/-! ### calls of the text's own defs -/
/-- where a lent argument stands -/
def Lent : Es → List Bool → List V → St → Prop
  | .cons e es, c :: cs, v :: vs, σ => (c = true → ∀ i, e.slot? = some i → σ[i]? = some (some v)) ∧ Lent es cs vs σ
  | _, _, _, _ => True
structure RepMs (K : PySem.W.Frag) (Cl : Nat → Option ClsI) (F H : Hp) (ms : List M) (vs : List V) (Bs : Nat → AS) : Prop where
  len : vs.length = ms.length
  rep : ∀ (i : Nat) (m : M), ms[i]? = some m → ∃ v, vs[i]? = some v ∧ RepM K Cl F H m v (Bs i)
  out : ∀ i, ms.length ≤ i → ∀ a, ¬ Bs i a
  dis : ∀ i j a, i ≠ j → Bs i a → ¬ Bs j a
def tAm (K : PySem.W.Frag) (Cl : Nat → Option ClsI) (es : Es) (mu : List Bool) (f : Slots → Option (List M × Slots)) : TA := fun σ H Q => ∃ ρ F As ms ρ', f ρ = some (ms, ρ') ∧ Good K Cl ρ σ F As H ∧
  ∀ vs F' As' Bs H', Step false F (Own As) H F' ((Own As').or (Own Bs)) H' → Good K Cl ρ' σ F' As' H' → RepMs K Cl F' H' ms vs Bs → (∀ a, Own Bs a → ¬ Own As' a) → Lent es mu vs σ → Q vs H'
def consA (A : AS) (Bs : Nat → AS) : Nat → AS := fun j => match j with
  | 0 => A
  | j + 1 => Bs j
theorem own_cons {A : AS} {Bs : Nat → AS} {b : Addr} : Own (consA A Bs) b ↔ A b ∨ Own Bs b := by
  constructor
  · rintro ⟨j, h⟩
    cases j with
    | zero => exact .inl h
    | succ j => exact .inr ⟨j, h⟩
  · rintro (h | ⟨j, h⟩)
    · exact ⟨0, h⟩
    · exact ⟨j + 1, h⟩
theorem RepMs.cons {ms : List M} {vs : List V} {Bs : Nat → AS} {m : M} {v : V} {A : AS} (r : RepMs K Cl F H ms vs Bs) (rm : RepM K Cl F H m v A) (d : ∀ a, A a → ¬ Own Bs a) : RepMs K Cl F H (m :: ms) (v :: vs) (consA A Bs) := by
  refine ⟨by simp [r.len], fun i m' e => ?_, fun i h => ?_, fun i j a hne h1 h2 => ?_⟩
  · cases i with
    | zero => simp at e; subst e; exact ⟨v, rfl, rm⟩
    | succ i =>
      obtain ⟨w, h1, h2⟩ := r.rep i m' (by simpa using e)
      exact ⟨w, by simpa using h1, h2⟩
  · cases i with
    | zero => simp at h
    | succ i => exact r.out i (by simpa using h)
  · cases i with
    | zero => cases j with
      | zero => exact hne rfl
      | succ j => exact d a h1 ⟨j, h2⟩
    | succ i => cases j with
      | zero => exact d a h2 ⟨i, h1⟩
      | succ j => exact r.dis i j a (fun z => hne (by rw [z])) h1 h2
theorem RepMs.nil : RepMs K Cl F H [] [] fun _ => non := ⟨rfl, fun i m e => by simp at e, fun _ _ _ h => h, fun _ _ _ _ h => h.elim⟩
/-- stands aside while others act -/
theorem Step.with {p : Bool} {F F' : Hp} {S S' A : AS} {H H' : Hp} (a : Step p F S H F' S' H') : Step p F (S.or A) H F' (S'.or A) H' :=
  ⟨a.hf, fun b o e n => a.keep b o e fun z => n (.inl z), fun b h => h.elim (fun z => (a.own b z).imp .inl id) fun z => .inl (.inr z), fun b o e => (a.frz b o e).imp id (Or.imp .inl id), a.pur⟩
theorem snd_m0 {mu : List Bool} (h : PA X [] tNil) : PA X [] (tAm X.K Cl .nil mu (evm G mu .nil)) := h.imp fun σ H Q q => by
  obtain ⟨ρ, F, As, ms, ρ', e, g, k⟩ := q
  unfold evm at e
  split at e
  · cases e
    exact k [] F As (fun _ => non) H (Step.refl.less fun b h => h.elim id fun ⟨_, z⟩ => z.elim) g .nil (fun a ⟨_, z⟩ => z.elim) trivial
  · rename_i q; cases q
  · cases e
/-- a temporary, held while the rest is evaluated -/
theorem am_rest {c : Bool} {mu : List Bool} {e : E} {es : Es} {σ : St} {H : Hp} {Q : List V → Hp → Prop} {ρ1 ρ' : Slots} {F : Hp} {As : Nat → AS} {m : M} {ms : List M} (e4 : evm G mu es ρ1 = some (ms, ρ'))
    (k : ∀ (vs : List V) (F' : Hp) (As' Bs : Nat → AS) (H' : Hp), Step false F (Own As) H F' ((Own As').or (Own Bs)) H' → Good K Cl ρ' σ F' As' H' → RepMs K Cl F' H' (m :: ms) vs Bs → (∀ a, Own Bs a → ¬ Own As' a) → Lent (.cons e es) (c :: mu) vs σ → Q vs H')
    {v : V} {F1 : Hp} {As1 : Nat → AS} {A : AS} {H1 : Hp} (st1 : Step false F (Own As) H F1 ((Own As1).or A) H1) (g1 : Good K Cl ρ1 σ F1 As1 H1) (r1 : RepM K Cl F1 H1 m v A) (d1 : ∀ a, A a → ¬ Own As1 a) (hl : c = true → ∀ i, e.slot? = some i → σ[i]? = some (some v)) :
    tAm K Cl es mu (evm G mu es) σ H1 fun vs H2 => Q (v :: vs) H2 := by
  refine ⟨ρ1, F1, As1, ms, ρ', e4, g1, fun vs F2 As2 Bs H2 st2 g2 r2 d2 l2 => ?_⟩
  obtain ⟨r1', n1⟩ := st2.held r1 d1
  refine k _ F2 As2 (consA A Bs) H2 (((st1.trans st2.with).less fun b h => ?_).weak fun z => by cases z) g2 (r2.cons r1' fun a ha hb => n1 a ha (.inr hb)) (fun a ha hb => ?_) ⟨hl, l2⟩
  · rcases h with h | h
    · exact .inl (.inl h)
    · rcases own_cons.mp h with h | h
      · exact .inr h
      · exact .inl (.inr h)
  · rcases own_cons.mp ha with h | h
    · exact n1 a h (.inl hb)
    · exact d2 a h hb
theorem snd_mcons {c : Bool} {mu : List Bool} {e : E} {es : Es} {x : Expr} {xs : List Expr} (hx : PE X x (tE X.K Cl e.vs (ev G e))) (hv : ∀ i, e.slot? = some i → PE X x (tVar i)) (hr : PA X xs (tAm X.K Cl es mu (evm G mu es)))
    (hs : starEach (x :: xs) X.env = (false, eval x X.env) :: starEach xs X.env) : PA X (x :: xs) (tAm X.K Cl (.cons e es) (c :: mu) (evm G (c :: mu) (.cons e es))) := by
  cases c with
  | false =>
    refine (pa_cons hx.keptN hr hs).imp fun σ H Q q => ?_
    obtain ⟨ρ, F, As, ms, ρ', e1, g, k⟩ := q
    unfold evm at e1
    obtain ⟨m, ρ1, e2, e1⟩ := bnd_some e1
    obtain ⟨t, e3, e1⟩ := obd_some e1
    obtain ⟨us, ρ2, e4, e1⟩ := bnd_some e1
    cases e1
    refine ⟨ρ, F, As, t, ρ1, by unfold f1; simp only [e2, bnd_ok, e3, obd_ok], g, fun v F1 As1 H1 st1 g1 r1 => ?_⟩
    exact am_rest e4 k (A := non) (st1.less fun b h => h.elim id fun z => z.elim) g1 ⟨fun _ h => h, r1⟩ (fun _ h => h.elim) fun z => by cases z
  | true =>
    cases hsl : e.slot? with
    | none =>
      refine (pa_cons (hx.imp fun σ H Q q => tE_pu (p := false) (fun z => by cases z) q) hr hs).imp fun σ H Q q => ?_
      obtain ⟨ρ, F, As, ms, ρ', e1, g, k⟩ := q
      unfold evm at e1
      simp only [hsl] at e1
      obtain ⟨m, ρ1, e2, e1⟩ := bnd_some e1
      obtain ⟨us, ρ2, e4, e1⟩ := bnd_some e1
      cases e1
      refine ⟨ρ, F, As, m, ρ1, e2, g, fun v F1 As1 A H1 st1 g1 r1 d1 => ?_⟩
      exact am_rest e4 k st1 g1 r1 d1 fun _ i hi => by rw [hsl] at hi; cases hi
    | some i =>
      refine (pa_cons (hv i hsl) hr hs).imp fun σ H Q q => ?_
      obtain ⟨ρ, F, As, ms, ρ', e1, g, k⟩ := q
      unfold evm at e1
      simp only [hsl] at e1
      split at e1
      · rename_i m0 hm0
        obtain ⟨us, ρ2, e4, e1⟩ := bnd_some e1
        split at e1
        · rename_i m hm
          cases e1
          obtain ⟨v, ev', _⟩ := g.rep i m0 hm0
          refine ⟨v, ev', ρ, F, As, us, ρ2, e4, g, fun vs F2 As2 Bs H2 st2 g2 r2 d2 l2 => ?_⟩
          obtain ⟨v', ev2, r⟩ := g2.rep i m hm
          rw [ev'] at ev2; cases ev2
          refine k _ F2 (updA As2 i non) (consA (As2 i) Bs) H2 (st2.less fun b h => ?_) (g2.clr i) (r2.cons r fun a ha hb => d2 a hb ⟨i, ha⟩) (fun a ha hb => ?_) ⟨fun _ j hj => by rw [hsl] at hj; cases hj; exact ev', l2⟩
          · rcases h with h | h
            · exact (own_upd b h).elim .inl fun z => z.elim
            · rcases own_cons.mp h with h | h
              · exact .inl ⟨i, h⟩
              · exact .inr h
          · rcases own_cons.mp ha with h | h
            · exact g2.apart i a h hb
            · exact d2 a h ((own_upd a hb).elim id fun z => z.elim)
        · cases e1
      · cases e1
/-- what was lent comes back -/
theorem back_good : ∀ (es : Es) (mu : List Bool) (ms' : Slots) (ρ : Slots) (vs : List V) (As Bs : Nat → AS), Good K Cl ρ σ F As H → Lent es mu vs σ →
    (∀ i : Nat, mu[i]? = some true → ∃ m v, ms'[i]? = some (some m) ∧ vs[i]? = some v ∧ RepM K Cl F H m v (Bs i)) → (∀ i j a, i ≠ j → Bs i a → ¬ Bs j a) → (∀ a, Own Bs a → ¬ Own As a) →
    ∃ As', Good K Cl (backM es mu ms' ρ) σ F As' H ∧ ∀ b, Own As' b → Own As b ∨ Own Bs b
  | es, [], ms', ρ, vs, As, Bs, g, _, _, _, _ => by
    refine ⟨As, ?_, fun b h => .inl h⟩
    unfold backM
    exact g
  | es, c :: mu, [], ρ, vs, As, Bs, g, _, _, _, _ => by
    refine ⟨As, ?_, fun b h => .inl h⟩
    unfold backM
    exact g
  | .nil, c :: mu, m :: ms, ρ, vs, As, Bs, g, _, _, _, _ => by
    refine ⟨As, ?_, fun b h => .inl h⟩
    unfold backM
    exact g
  | .cons e es, c :: mu, m :: ms, ρ, vs, As, Bs, g, l, h, d1, d2 => by
    have tail : ∀ (ρ1 : Slots) (As1 : Nat → AS), Good K Cl ρ1 σ F As1 H → (∀ b, Own As1 b → Own As b ∨ Bs 0 b) → ∃ As', Good K Cl (backM es mu ms ρ1) σ F As' H ∧ ∀ b, Own As' b → Own As b ∨ Own Bs b := fun ρ1 As1 g1 o1 => by
      have lt : Lent es mu vs.tail σ := by
        cases vs with
        | nil => cases es <;> cases mu <;> trivial
        | cons v vs => exact l.2
      obtain ⟨As', g', o'⟩ := back_good es mu ms ρ1 vs.tail As1 (fun i => Bs (i + 1)) g1 lt (fun i hi => by
          obtain ⟨m', v', h1, h2, h3⟩ := h (i + 1) (by simpa using hi)
          exact ⟨m', v', by simpa using h1, by rw [List.getElem?_tail]; exact h2, h3⟩) (fun i j a hne => d1 (i + 1) (j + 1) a (by omega)) (fun a ⟨j, hj⟩ ha => by
          rcases o1 a ha with z | z
          · exact d2 a ⟨j + 1, hj⟩ z
          · exact d1 0 (j + 1) a (by omega) z hj)
      refine ⟨As', g', fun b hb => ?_⟩
      rcases o' b hb with z | ⟨j, z⟩
      · exact (o1 b z).imp id fun y => ⟨0, y⟩
      · exact .inr ⟨j + 1, z⟩
    cases c with
    | false =>
      have hb : backM (.cons e es) (false :: mu) (m :: ms) ρ = backM es mu ms ρ := by
        show backM es mu ms (match false, e.slot? with | true, some i => ρ.set i m | _, _ => ρ) = _
        cases e.slot? <;> rfl
      rw [hb]
      exact tail ρ As g fun b h => .inl h
    | true =>
      cases hs : e.slot? with
      | none =>
        have hb : backM (.cons e es) (true :: mu) (m :: ms) ρ = backM es mu ms ρ := by
          show backM es mu ms (match true, e.slot? with | true, some i => ρ.set i m | _, _ => ρ) = _
          rw [hs]
        rw [hb]
        exact tail ρ As g fun b h => .inl h
      | some i =>
        have hb : backM (.cons e es) (true :: mu) (m :: ms) ρ = backM es mu ms (ρ.set i m) := by
          show backM es mu ms (match true, e.slot? with | true, some i => ρ.set i m | _, _ => ρ) = _
          rw [hs]
        rw [hb]
        obtain ⟨m', v', h1, h2, h3⟩ := h 0 rfl
        simp at h1
        subst h1
        have ev' : σ[i]? = some (some v') := by
          cases vs with
          | nil => simp at h2
          | cons v vs => simp at h2; subst h2; exact l.1 rfl i hs
        have hi : i < ρ.length := by rw [g.len]; exact (List.getElem?_eq_some_iff.mp ev').1
        refine tail _ _ (g.set hi ev' h3 fun j a _ ha hj => d2 a ⟨0, ha⟩ ⟨j, hj⟩) fun b hb => ?_
        exact own_upd b hb
theorem call_fin {es : Es} {fn : Fn} {n : Nat} {Q : VK} {ms : List M} {ρ1 ms' : Slots} {m : M} (hn : fn.mu.length = n) (e1 : evm G fn.mu es ρ = some (ms, ρ1)) (e2 : fn.sem ms = some (m, ms'))
    (k : ∀ v F' As' A H', Step false F (Own As) H F' ((Own As').or A) H' → Good K Cl (backM es fn.mu ms' ρ1) σ F' As' H' → RepM K Cl F' H' m v A → (∀ a, A a → ¬ Own As' a) → Q v H')
    {vs : List V} {F1 : Hp} {As1 Bs : Nat → AS} {H1 : Hp} (st1 : Step false F (Own As) H F1 ((Own As1).or (Own Bs)) H1) (g1 : Good K Cl ρ1 σ F1 As1 H1) (r1 : RepMs K Cl F1 H1 ms vs Bs) (d1 : ∀ a, Own Bs a → ¬ Own As1 a) (l1 : Lent es fn.mu vs σ) : spOf K Cl fn n vs H1 Q E0 := by
  have lens : ∀ {mu : List Bool} {es : Es} {ρ ρ1 : Slots} {ms : List M}, evm G mu es ρ = some (ms, ρ1) → ms.length = mu.length ∧ ∀ i : Nat, mu[i]? = some false → ∃ t, ms[i]? = some (mt t) := by
    intro mu
    induction mu with
    | nil =>
      intro es ρ ρ1 ms e
      cases es with
      | nil => unfold evm at e; cases e; exact ⟨rfl, fun i h => by simp at h⟩
      | cons _ _ => unfold evm at e; cases e
    | cons c mu ih =>
      intro es ρ ρ1 ms e
      cases es with
      | nil => unfold evm at e; cases e
      | cons e0 es =>
        unfold evm at e
        cases c with
        | false =>
          obtain ⟨m, ρ2, _, e⟩ := bnd_some e
          obtain ⟨t, _, e⟩ := obd_some e
          obtain ⟨ms2, ρ3, e4, e⟩ := bnd_some e
          cases e
          obtain ⟨h1, h2⟩ := ih e4
          refine ⟨by simp [h1], fun i hi => ?_⟩
          cases i with
          | zero => exact ⟨t, rfl⟩
          | succ i => simpa using h2 i (by simpa using hi)
        | true =>
          have fin : ∀ {m : M} {ms2 : List M} {ρ2 ρ3 : Slots}, evm G mu es ρ2 = some (ms2, ρ3) → (m :: ms2).length = (true :: mu).length ∧ ∀ i : Nat, (true :: mu)[i]? = some false → ∃ t, (m :: ms2)[i]? = some (mt t) := fun e4 => by
            obtain ⟨h1, h2⟩ := ih e4
            refine ⟨by simp [h1], fun i hi => ?_⟩
            cases i with
            | zero => simp at hi
            | succ i => simpa using h2 i (by simpa using hi)
          have e' : (match e0.slot? with
            | some i => match ρ[i]? with
              | some (some _) => bnd (evm G mu es ρ) fun ms ρ => (match ρ[i]? with
                | some (some m) => some (m :: ms, ρ.set i none)
                | _ => none)
              | _ => none
            | none => bnd (ev G e0 ρ) fun m ρ => bnd (evm G mu es ρ) fun ms ρ => some (m :: ms, ρ)) = some (ms, ρ1) := e
          split at e'
          · split at e'
            · obtain ⟨ms2, ρ3, e4, e'⟩ := bnd_some e'
              split at e'
              · cases e'
                exact fin e4
              · cases e'
            · cases e'
          · obtain ⟨m, ρ2, _, e'⟩ := bnd_some e'
            obtain ⟨ms2, ρ3, e4, e'⟩ := bnd_some e'
            cases e'
            exact fin e4
  obtain ⟨hl, hfz⟩ := lens e1
  refine ⟨r1.len.trans (hl.trans hn), F1, Bs, ms, m, ms', e2, hl.trans hn, hn, g1.same, r1.rep, r1.dis, fun i hi => r1.out i (by rw [hl, hn]; exact hi), hfz, ?_⟩
  intro v F2 Bs2 A H2 st2 s2 r2 dB dA hmu hno
  -- the caller's slots stand aside
  have g2 : Good K Cl ρ1 σ F2 As1 H2 := by
    refine ⟨s2, fun i m e => ?_, g1.out, g1.dis, g1.len⟩
    obtain ⟨v, ev, r⟩ := g1.rep i m e
    exact ⟨v, ev, (st2.held r fun b hb hB => d1 b hB ⟨i, hb⟩).1⟩
  have apart : ∀ b, Own As1 b → ¬ ((Own Bs2).or A) b := fun b ⟨i, hb⟩ => by
    by_cases hm : ∃ m, ρ1[i]? = some (some m)
    · obtain ⟨m, e⟩ := hm
      obtain ⟨v, ev, r⟩ := g1.rep i m e
      exact (st2.held r fun b hb hB => d1 b hB ⟨i, hb⟩).2 b hb
    · exact absurd hb (g1.out i (fun m q => hm ⟨m, q⟩) b)
  obtain ⟨As3, g3, o3⟩ := back_good es fn.mu ms' ρ1 vs As1 Bs2 g2 l1 hmu dB fun a ha hb => apart a hb (.inl ha)
  have st3 : Step false F1 ((Own As1).or (Own Bs)) H1 F2 (((Own Bs2).or A).or (Own As1)) H2 := (st2.with (A := Own As1)).more fun b h => h.elim .inr .inl
  refine k v F2 As3 A H2 (((st1.trans st3).less fun b h => ?_).weak fun z => by cases z) g3 r2 fun a ha hb => ?_
  · rcases h with h | h
    · rcases o3 b h with z | z
      · exact .inr z
      · exact .inl (.inl z)
    · exact .inl (.inr h)
  · rcases o3 a hb with z | z
    · exact apart a z (.inr ha)
    · exact dA a ha z
theorem call_end {j : Str} {es : Es} {fn : Fn} {n : Nat} {Q : VK} (hF : G.fns j = some fn) (hn : fn.mu.length = n) (h : tE K Cl false (ev G (.call j es)) σ H Q) :
    tAm K Cl es fn.mu (evm G fn.mu es) σ H fun vs H1 => spOf K Cl fn n vs H1 Q E0 := by
  obtain ⟨ρ, F, As, m, ρ', e, g, k⟩ := h
  unfold ev at e
  rw [hF] at e
  have e : (bnd (evm G fn.mu es ρ) fun ms ρ => bnd (fn.sem ms) fun m ρ' => some (m, backM es fn.mu ρ' ρ)) = some (m, ρ') := e
  obtain ⟨ms, ρ1, e1, e⟩ := bnd_some e
  obtain ⟨m', ms', e2, e⟩ := bnd_some e
  cases e
  exact ⟨ρ, F, As, ms, ρ1, e1, g, fun vs F1 As1 Bs H1 st1 g1 r1 d1 l1 => call_fin hn e1 e2 k st1 g1 r1 d1 l1⟩
theorem snd_call (ok : Ok Z G Cl sc so X) {j : Str} {es : Es} {x : Str} {a : Expr} {args : List Expr} {pp pos : Pos} {I : FnI} (hI : Z.fn j = some I) (hname : I.name = x) (hg : glB sc x = true)
    (ha : ∀ mu, PA X (a :: args) (tAm X.K Cl es mu (evm G mu es))) (he : starEach (a :: args) X.env = (false, eval a X.env) :: starEach args X.env) (hpl : (backTo pos (starEach args X.env)).any (·.1) = false) :
    PE X (.Call (.Name x pp) (a :: args) [] pos) (tE X.K Cl false (ev G (.call j es))) := by
  obtain ⟨gl, hd, hn⟩ := ok.gl hg
  cases hF : G.fns j with
  | none =>
    refine ⟨fun pins s σ H Q I hh => ?_⟩
    obtain ⟨ρ, F, As, m, ρ', e, g, k⟩ := hh
    unfold ev at e; rw [hF] at e; cases e
  | some fn =>
    obtain ⟨f, fd, k, hr, hm, hk, hb, hmu, _, F⟩ := ok.fns j I fn hI hF
    subst hname
    refine (pe_call F hr gl hm hk hb .nil pass0 (ha fn.mu) hd he hpl).imp fun σ H Q q => ?_
    obtain ⟨ρ, F', As, ms, ρ', e, g, k'⟩ := call_end hF hmu q
    refine ⟨ρ, F', As, ms, ρ', e, g, fun vs F1 As1 Bs H1 st g1 r d l => ?_⟩
    have z := k' vs F1 As1 Bs H1 st g1 r d l
    show spOf X.K Cl fn I.ps.length (vs ++ []) H1 Q E0
    rw [List.append_nil]
    exact z
end
end Mk
set_option maxHeartbeats 4000000
/-! Mk: keyword calls, pop, targets, what is walked, comprehensions. -/
namespace Mk
open PySem L2
section
variable {K : PySem.W.Frag} {Cl : Nat → Option ClsI} {F H : Hp} {ρ : Slots} {σ : St} {As : Nat → AS} {G : Gc} {Z : Zs} {sc : Scope} {so : Str → Bool} {X : Cx}
/-! ### keyword calls -/
def _root_.Mk.Es.len : Es → Nat
  | .nil => 0
  | .cons _ es => es.len + 1
theorem evf_len : ∀ {es : Es} {ρ ρ' : Slots} {ts : List T}, evf G es ρ = some (ts, ρ') → ts.length = es.len
  | .nil, _, _, _, h => by cases h; rfl
  | .cons e es, _, _, _, h => by
    unfold evf at h
    obtain ⟨m, ρ1, e2, h⟩ := bnd_some h
    obtain ⟨t, e3, h⟩ := obd_some h
    obtain ⟨us, ρ2, e4, h⟩ := bnd_some h
    cases h
    simp [evf_len e4, Es.len]
theorem chk_len : ∀ {es : Es} {xs : List Expr}, chkEs Z es sc so xs = true → es.len = xs.length
  | .nil, [], _ => rfl
  | .cons e es, x :: xs, h => by
    unfold chkEs at h
    rw [Bool.and_eq_true] at h
    simp [Es.len, chk_len h.2]
  | .nil, _ :: _, h => by unfold chkEs at h; cases h
  | .cons _ _, [], h => by unfold chkEs at h; cases h
theorem kw_len : ∀ {kws : List Keyword} {ks : List Str}, kwNames kws = some ks → kws.length = ks.length
  | [], ks, h => by cases h; rfl
  | ⟨some x, e, p⟩ :: r, ks, h => by
    unfold kwNames at h
    obtain ⟨ks', h1, rfl⟩ := map_some h
    simp [kw_len h1]
  | ⟨none, e, p⟩ :: r, ks, h => by cases h
theorem kws_of : ∀ {kws : List Keyword} {ks : List Str} {env : Env} {pos : Pos}, kwNames kws = some ks → (backToKw pos (keywordEach kws env)).all (·.1.isSome) = true ∧ (backToKw pos (keywordEach kws env)).filterMap (·.1) = ks ∧ (backToKw pos (keywordEach kws env)).any (·.1.isNone) = false
  | [], ks, env, pos, h => by cases h; exact ⟨rfl, rfl, rfl⟩
  | ⟨some x, e, p⟩ :: r, ks, env, pos, h => by
    unfold kwNames at h
    obtain ⟨ks', h1, rfl⟩ := map_some h
    obtain ⟨a, b, c⟩ := kws_of (env := env) (pos := pos) h1
    refine ⟨?_, ?_, ?_⟩
    · show (true && (backToKw pos (keywordEach r env)).all (·.1.isSome)) = true
      rw [a]; rfl
    · show x :: (backToKw pos (keywordEach r env)).filterMap (·.1) = _
      rw [b]
    · show (false || (backToKw pos (keywordEach r env)).any (·.1.isNone)) = false
      rw [c]; rfl
  | ⟨none, e, p⟩ :: r, ks, env, pos, h => by cases h
theorem getD_rel : ∀ {zs : List V} {ws : List Value} {i : Nat}, Vals zs ws → i < zs.length → RelV (zs.getD i .non) (ws.getD i .none)
  | _, _, _, .nil, h => by simp at h
  | _, _, 0, .cons r _, _ => r
  | _, _, i + 1, .cons _ t, h => by simpa using getD_rel (i := i) t (by simpa using h)
theorem perm_vals {zs : List V} {ws : List Value} (r : Vals zs ws) : ∀ {perm : List Nat}, (∀ i ∈ perm, i < zs.length) → Vals (perm.map fun i => zs.getD i .non) (perm.map fun i => ws.getD i .none)
  | [], _ => .nil
  | i :: p, h => .cons (getD_rel r (h i List.mem_cons_self)) (perm_vals r fun j hj => h j (List.mem_cons_of_mem _ hj))
theorem val_sem {fns : Str → Option Fn} {j : Str} {fn : Fn} {ts : List T} {m : M} (hF : fns j = some fn) (h : valOf fns j ts = some m) : ∃ ms', fn.sem (ts.map mt) = some (m, ms') := by
  unfold valOf at h
  rw [hF, obd_ok] at h
  split at h
  · cases q : fn.sem (ts.map mt) with
    | none => rw [q] at h; cases h
    | some p => rw [q] at h; cases h; exact ⟨p.2, rfl⟩
  · cases h
theorem evm_false {G : Gc} : ∀ {es : Es} {n : Nat} {ρ ρ' : Slots} {ts : List T}, evf G es ρ = some (ts, ρ') → n = ts.length → evm G (List.replicate n false) es ρ = some (ts.map mt, ρ')
  | .nil, n, ρ, ρ', ts, e, hn => by
    unfold evf at e; cases e
    subst hn
    unfold evm
    rfl
  | .cons x es, n, ρ, ρ', ts, e, hn => by
    unfold evf at e
    obtain ⟨m, ρ1, e1, e⟩ := bnd_some e
    obtain ⟨t, e2, e⟩ := obd_some e
    obtain ⟨ts', ρ2, e3, e⟩ := bnd_some e
    cases e
    subst hn
    show evm G (false :: List.replicate ts'.length false) (.cons x es) ρ = _
    unfold evm
    show (bnd (ev G x ρ) fun m ρ => obd m.frz fun t => bnd (evm G (List.replicate ts'.length false) es ρ) fun ms ρ => some (mt t :: ms, ρ)) = _
    rw [e1, bnd_ok, e2, obd_ok, evm_false e3 rfl, bnd_ok]
    rfl
theorem backM_false {ms : Slots} {ρ : Slots} : ∀ {es : Es} {n : Nat} {ms : Slots}, backM es (List.replicate n false) ms ρ = ρ
  | _, 0, _ => by unfold backM; rfl
  | _, n + 1, [] => by show backM _ (false :: List.replicate n false) [] ρ = ρ; unfold backM; rfl
  | .nil, n + 1, m :: ms => by show backM .nil (false :: List.replicate n false) (m :: ms) ρ = ρ; unfold backM; rfl
  | .cons e es, n + 1, m :: ms => by
    show backM (.cons e es) (false :: List.replicate n false) (m :: ms) ρ = ρ
    unfold backM
    exact backM_false (ms := ms) (es := es)
theorem callp_call {G : Gc} {j : Str} {es : Es} {ρ ρ' : Slots} {m : M} (h : ev G (.callp j es) ρ = some (m, ρ')) : ev G (.call j es) ρ = some (m, ρ') := by
  unfold ev at h
  obtain ⟨ts, ρ1, e1, h⟩ := bnd_some h
  obtain ⟨m', e2, h⟩ := obd_some h
  cases h
  unfold ev
  unfold valOf at e2
  cases q : G.fns j with
  | none => rw [q] at e2; cases e2
  | some F =>
    rw [q, obd_ok] at e2
    rw [obd_ok]
    split at e2
    · rename_i hmu
      cases q2 : F.sem (ts.map mt) with
      | none => rw [q2] at e2; cases e2
      | some p =>
        rw [q2] at e2; cases e2
        rw [hmu, evm_false e1 rfl, bnd_ok, q2]
        show some (p.1, backM es (List.replicate ts.length false) p.2 ρ') = _
        rw [backM_false (ms := [])]
    · cases e2
theorem snd_callk (ok : Ok Z G Cl sc so X) {j : Str} {es : Es} {perm : List Nat} {x : Str} {kws : List Keyword} {ks : List Str} {pp pos : Pos} {I : FnI} (hI : Z.fn j = some I) (hname : I.name = x) (hg : glB sc x = true)
    (hk : kwNames kws = some ks) (hp : (ks, perm) ∈ I.kws) (hes : es.len = ks.length) (ha : PK X kws (tAf X.K Cl (evf G es))) : PE X (.Call (.Name x pp) [] kws pos) (tE X.K Cl false (ev G (.callk j es perm))) := by
  obtain ⟨gl, hd, hn⟩ := ok.gl hg
  cases hF : G.fns j with
  | none =>
    refine ⟨fun pins s σ H Q I hh => ?_⟩
    obtain ⟨ρ, F, As, m, ρ', e, g, k⟩ := hh
    unfold ev at e
    obtain ⟨ts, ρ1, e1, e⟩ := bnd_some e
    unfold valOf at e
    rw [hF] at e; cases e
  | some fn =>
    obtain ⟨f, fd, k, hr, hm, hkp, hb, hmu, hkw, FO⟩ := ok.fns j I fn hI hF
    obtain ⟨hl1, hl2, hlt, hbt⟩ := hkw ks perm hp
    subst hname
    obtain ⟨q1, q2, q3⟩ := kws_of (env := X.env) (pos := pos) hk
    refine ⟨fun pins s σ H Q Iv hh => ?_⟩
    refine wpAny_Call_Name_kw (ld_glob Iv gl hm ?_ hd)
    refine PySem.W.callWith_KW0 (h₀ := X.base) Iv.ok.mod.kin hkp q1 ?_ (by rw [q3]; rfl)
    rw [q2]
    obtain ⟨ρ, F, As, m, ρ', e, g, kk⟩ := hh
    unfold ev at e
    obtain ⟨ts, ρ1, e1, e⟩ := bnd_some e
    obtain ⟨m', e0, e⟩ := obd_some e
    cases e
    obtain ⟨ms', e2⟩ := val_sem hF e0
    rw [List.map_map] at e2
    refine thn (ha.run pos pins s σ H (fun zs H1 => zs.length = ks.length ∧ spOf X.K Cl fn I.ps.length (perm.map fun i => zs.getD i .non) H1 Q E0) Iv ⟨ρ, F, As, ts, ρ', e1, g, fun vs F1 As1 H1 st1 g1 r1 => ?_⟩) fun ws s1 ⟨zs, H1, I1, rz, hzl, sp⟩ => ⟨I1.kIn, ?_⟩
    · have hlen : vs.length = ks.length := by rw [← r1.length, evf_len e1, hes]
      refine ⟨hlen, by rw [List.length_map, hl2], F1, fun _ => non, _, m, ms', e2, by rw [List.length_map, hl2], hmu, g1.same, fun i mi hmi => ?_, fun _ _ _ _ h => h.elim, fun _ _ _ h => h, fun i hi => ?_, ?_⟩
      · rw [List.getElem?_map] at hmi ⊢
        cases hpi : perm[i]? with
        | none => rw [hpi] at hmi; cases hmi
        | some p =>
          rw [hpi] at hmi; cases hmi
          have hpl : p < vs.length := by rw [hlen]; exact hlt p (List.mem_of_getElem? hpi)
          have hv : vs[p]? = some vs[p] := by simp [hpl]
          obtain ⟨t, h1, h2⟩ := r1.getV hv
          refine ⟨vs.getD p .non, rfl, fun _ h => h, ?_⟩
          show RepT X.K F1 ((ts[p]?).getD .non) (vs.getD p .non)
          rw [h1, List.getD_eq_getElem?_getD, hv]
          exact h2
      · have hi' : i < perm.length := by
          have := (List.getElem?_eq_some_iff.mp hi).1
          rw [hmu] at this; rw [hl2]; exact this
        refine ⟨(ts[perm[i]]?).getD .non, ?_⟩
        rw [List.getElem?_map]
        have : perm[i]? = some perm[i] := by simp [hi']
        rw [this]
        rfl
      · intro v F2 Bs2 A H2 st2 s2 r2 dB dA hmut hno
        have g2 : Good X.K Cl ρ' σ F2 As1 H2 := by
          refine ⟨s2, fun i m e => ?_, g1.out, g1.dis, g1.len⟩
          obtain ⟨v, ev, r⟩ := g1.rep i m e
          exact ⟨v, ev, (st2.held r fun b hb ⟨_, z⟩ => z).1⟩
        refine kk v F2 As1 A H2 (((st1.trans ((st2.with (A := Own As1)).more (S2 := Own As1) fun b h => h.elim (fun ⟨_, z⟩ => z.elim) id)).less fun b h => ?_).weak fun z => by cases z) g2 r2 fun a ha ⟨i, hb⟩ => ?_
        · rcases h with h | h
          · exact .inr h
          · exact .inl (.inr h)
        · by_cases hm : ∃ m, ρ'[i]? = some (some m)
          · obtain ⟨m, e⟩ := hm
            obtain ⟨v, ev, r⟩ := g1.rep i m e
            exact (st2.held r fun b hb ⟨_, z⟩ => z).2 a hb (.inr ha)
          · exact g1.out i (fun m q => hm ⟨m, q⟩) a hb
    · -- the callee runs
      have r2 := perm_vals rz (perm := perm) fun i hi => by rw [hzl]; exact hlt i hi
      have hwl : ws.length = ks.length := by rw [← rz.length]; exact hzl
      show wpAny (model X.prog X.w) X.A (call (.ref f) ([] ++ []) (ks.zip ws)) _ _ s1
      rw [List.append_nil]
      refine wpAny_call (codeAny_mono (FO.run X.A X.stack s1 H1 ⟨[], ks.zip ws⟩ _ _ Q E0 hr I1.env0 (hbt s1 ws I1.kIn hwl) r2 sp) fun r s' hq => ?_)
      cases r with
      | error e => exact (pass0 (X := X)) pins σ H1 s1 e s' I1 hq
      | ok fl =>
        cases fl with
        | ret u => exact I1.after hq
        | next => exact False.elim hq
        | brk => exact False.elim hq
        | cont => exact False.elim hq
/-! ### pop -/
theorem ls_of {i : Nat} {xs : List T} (h : lsOf ρ i = some xs) : ρ[i]? = some (some (.bx (.ls xs))) := by
  unfold lsOf at h
  split at h
  · rename_i q; cases h; exact q
  · cases h
theorem step_write {l : Addr} {o : HO} {S : AS} (h : S l) (hn : ∃ u, H l = some u) : Step false F S H F S (upd H l o) :=
  ⟨Same.refl F, fun b u e n => by rw [upd_ne fun z => n (by rw [z]; exact h)]; exact e, fun b h => .inl h, fun _ _ e => .inl e, fun z => by cases z⟩
/-- a list that a slot owns is changed -/
theorem Good.write (g : Good K Cl ρ σ F As H) {i : Nat} {xs ys : List T} (e : ρ[i]? = some (some (.bx (.ls xs)))) : ∃ l vs, σ[i]? = some (some (.ref l)) ∧ H l = some (.lst vs) ∧ vs.length ≤ sizeLine ∧ RepTs K F xs vs ∧
    ∀ ws, RepTs K F ys ws → ws.length ≤ sizeLine → Good K Cl (ρ.set i (some (.bx (.ls ys)))) σ F As (upd H l (.lst ws)) ∧ Step false F (Own As) H F (Own As) (upd H l (.lst ws)) := by
  obtain ⟨v, ev, r⟩ := g.rep i _ e
  obtain ⟨l, vs, rfl, hA, hf, hH, hz, hr⟩ := (show RepB K F H (.ls xs) v (As i) from r)
  have hl : As i l := (hA l).2 rfl
  refine ⟨l, vs, ev, hH, hz, hr, fun ws hw hzw => ⟨?_, step_write ⟨i, hl⟩ ⟨_, hH⟩⟩⟩
  have st : Step false F (As i) H F (As i) (upd H l (.lst ws)) := step_write hl ⟨_, hH⟩
  have g0 := g.clr i
  have g1 : Good K Cl (ρ.set i none) σ F (updA As i non) (upd H l (.lst ws)) := by
    refine ⟨fun b o e => ?_, fun j m e => ?_, g0.out, g0.dis, g0.len⟩
    · rw [upd_ne fun z => by rw [z, hf] at e; cases e]; exact g.same b o e
    · obtain ⟨v, ev, r⟩ := g0.rep j m e
      exact ⟨v, ev, (st.held r fun b hb hi => by
        by_cases hj : j = i
        · rw [hj, updA_same] at hb; exact hb
        · rw [updA_ne hj] at hb; exact g.dis j i b hj hb hi).1⟩
  have g2 := g1.set (i := i) (m := .bx (.ls ys)) (v := .ref l) (A := As i) (by rw [List.length_set]; exact g.lt e) ev ⟨l, ws, rfl, hA, hf, upd_same, hzw, hw⟩ (fun j a hj ha h => by
    rw [updA_ne hj] at h; exact g.dis i j a (Ne.symm hj) ha h)
  rw [List.set_set] at g2
  have ee : updA (updA As i non) i (As i) = As := by
    funext j
    by_cases hj : j = i
    · subst hj; rw [updA_same]
    · rw [updA_ne hj, updA_ne hj]
  rw [ee] at g2
  exact g2
theorem snd_pop0 {i : Nat} {x : Str} {px ap pos : Pos} (hv : PE X (.Name x px) (tVar i)) (hline : (ap.endLine == pos.line) = true) :
    PE X (.Call (.Attribute (.Name x px) "pop" ap) [] [] pos) (tE X.K Cl false (ev G (.pop0 i))) := by
  refine (pe_bm0 PySem.F.plainAttrs_list PySem.F.slot_list_pop PySem.F.type_list_pop (mt_pop (X := X)) hv (hline := hline)).imp fun σ H Q q => ?_
  obtain ⟨ρ, F, As, m, ρ', e, g, k⟩ := q
  unfold ev at e
  obtain ⟨xs, e2, e⟩ := obd_some e
  obtain ⟨y, e5, e⟩ := obd_some e
  cases e
  obtain ⟨l, vs, ev0, hH, hz, hr, w⟩ := g.write (ys := xs.dropLast) (ls_of e2)
  obtain ⟨y', h1, h2⟩ := hr.get e5
  have hd : RepTs X.K F xs.dropLast vs.dropLast := by
    rw [List.dropLast_eq_take, List.dropLast_eq_take, hr.length]
    exact hr.take _
  obtain ⟨g2, st2⟩ := w vs.dropLast hd (by rw [List.length_dropLast]; omega)
  refine ⟨.ref l, ev0, .inl ⟨rfl, vs, SqL.of hH⟩, l, vs, y', rfl, rfl, hH, by rw [← hr.length]; exact h1, ?_⟩
  exact k y' F As non _ ((st2.weak fun z => by cases z).less fun b h => h.elim id fun z => z.elim) g2 ⟨fun _ h => h, h2⟩ fun _ h => h.elim
theorem snd_pop {i : Nat} {a : E} {x : Str} {e : Expr} {px ap pos : Pos} (hv : PE X (.Name x px) (tVar i)) (ha : PE X e (tE X.K Cl a.vs (ev G a))) (hs : starEach [e] X.env = (false, eval e X.env) :: starEach [] X.env) (hline : (ap.endLine == pos.line) = true) :
    PE X (.Call (.Attribute (.Name x px) "pop" ap) [e] [] pos) (tE X.K Cl false (ev G (.pop i a))) := by
  refine (pe_bm PySem.F.plainAttrs_list PySem.F.slot_list_pop PySem.F.type_list_pop (mt_popAt (X := X)) hv (pa_cons ha.keptN pa_nil hs) (hs := hs) (hfew := by rw [hs]; rfl) (hline := hline)).imp fun σ H Q q => ?_
  obtain ⟨ρ, F, As, m, ρ', e, g, k⟩ := q
  unfold ev at e
  split at e
  · rename_i hl
    obtain ⟨t, ρ1, e1, e⟩ := bnd_some e
    obtain ⟨xs, e2, e⟩ := obd_some e
    obtain ⟨n, e3, e⟩ := obd_some e
    split at e
    · rename_i hn
      obtain ⟨j, e4, e⟩ := obd_some e
      obtain ⟨y, e5, e⟩ := obd_some e
      cases e
      obtain ⟨xs0, e0⟩ : ∃ xs0, lsOf ρ i = some xs0 := Option.isSome_iff_exists.mp hl
      obtain ⟨l, vs0, ev0, hH0, _⟩ := g.write (ys := []) (ls_of e0)
      refine ⟨.ref l, ev0, .inl ⟨rfl, vs0, SqL.of hH0⟩, ρ, F, As, t, ρ1, e1, g, fun v F1 As1 H1 st1 g1 r1 => ?_⟩
      unfold intOf at e3
      split at e3
      · cases e3
        cases r1
        obtain ⟨l', vs, ev1, hH, hz, hr, w⟩ := g1.write (ys := xs.eraseIdx j) (ls_of e2)
        rw [ev0] at ev1; cases ev1
        obtain ⟨y', h1, h2⟩ := hr.get e5
        obtain ⟨g2, st2⟩ := w (vs.eraseIdx j) (hr.erase j) (Nat.le_trans (len_erase vs j) hz)
        refine ⟨l, vs, n, j, y', rfl, rfl, hH, hn.1, hn.2, by rw [← hr.length]; exact e4, h1, ?_⟩
        exact k y' F1 As1 non _ (((st1.trans st2).weak fun z => by cases z).less fun b h => h.elim id fun z => z.elim) g2 ⟨fun _ h => h, h2⟩ fun _ h => h.elim
      · cases e3
    · cases e
  · cases e
end
end Mk
set_option maxHeartbeats 4000000
/-! Mk: what is lent for a look alone; a call of nothing. -/
namespace Mk
open PySem L2
section
variable {K : PySem.W.Frag} {Cl : Nat → Option ClsI} {F H : Hp} {ρ : Slots} {σ : St} {As : Nat → AS} {G : Gc} {Z : Zs} {sc : Scope} {so : Str → Bool} {X : Cx}
theorem frzA_get {ρ : Slots} {i : Nat} {m : M} (h : (frzA ρ)[i]? = some (some m)) : ∃ m0 t, ρ[i]? = some (some m0) ∧ m0.frz = some t ∧ m = mt t := by
  unfold frzA at h
  rw [List.getElem?_map] at h
  cases q : ρ[i]? with
  | none => rw [q] at h; cases h
  | some o =>
    rw [q] at h
    cases o with
    | none => cases h
    | some m0 =>
      have h : m0.frz.map mt = some m := Option.some.inj h
      cases q2 : m0.frz with
      | none => rw [q2] at h; cases h
      | some t => rw [q2] at h; cases h; exact ⟨m0, t, rfl, q2, rfl⟩
/-- all that stands, seen as never changing any more -/
theorem Good.all (g : Good K Cl ρ σ F As H) : Good K Cl (frzA ρ) σ H (fun _ => non) H := by
  refine ⟨Same.refl H, fun i m e => ?_, fun _ _ _ h => h, fun _ _ _ _ h => h.elim, by rw [← g.len]; simp [frzA]⟩
  obtain ⟨m0, t, e0, e1, rfl⟩ := frzA_get e
  obtain ⟨v, ev, r⟩ := g.rep i m0 e0
  exact ⟨v, ev, fun _ h => h, (r.frz e1).mono (addF_le g.same)⟩
theorem own_non : ∀ b, ¬ Own (fun _ => non) b := fun b ⟨_, h⟩ => h
theorem bor_end {e : E} {pu : Bool} {Q : VK} (h : tE K Cl false (ev G (.bor e)) σ H Q) : tE K Cl pu (ev G e) σ H Q := by
  obtain ⟨ρ, F, As, m, ρ', e1, g, k⟩ := h
  unfold ev at e1
  obtain ⟨m1, ρ1, e2, e1⟩ := bnd_some e1
  split at e1
  · rename_i hf
    cases e1
    refine ⟨frzA ρ, H, fun _ => non, m, ρ1, e2, g.all, fun v F' As' A H' st g' r d => ?_⟩
    have keep : Same H H' := fun b o e => st.keep b o e (own_non b)
    cases m with
    | ob _ _ => cases hf
    | bx x =>
      cases x with
      | fz t =>
        have rt : RepT K F t v := by
          have r2 : RepT K F' t v := r.2
          cases r2 <;> first
            | exact .non
            | exact .bl _
            | exact .int _
            | exact .str _
            | cases hf
        have g2 : Good K Cl ρ σ F As H' := ⟨g.same.trans keep, fun i m0 e0 => by
          obtain ⟨v0, ev0, r0⟩ := g.rep i m0 e0
          exact ⟨v0, ev0, r0.mono (Same.refl F) (fun a ha => (r0.own a ha).1) fun a o _ e => keep a o e⟩, g.out, g.dis, g.len⟩
        exact k v F As non H' ⟨Same.refl F, fun b o e _ => keep b o e, fun b hb => .inl (hb.elim id fun z => z.elim), fun b o e => .inl e, fun z => by cases z⟩ g2 ⟨fun _ z => z, rt⟩ fun _ z => z.elim
      | ls _ => cases hf
      | dk _ => cases hf
      | dt _ => cases hf
  · cases e1
theorem snd_bor {e : E} {x : Expr} (h : PE X x (tE X.K Cl e.vs (ev G e))) : PE X x (tE X.K Cl false (ev G (.bor e))) := h.imp fun σ H Q q => bor_end q
theorem call0_call {j : Str} {ρ ρ' : Slots} {m : M} (h : ev G (.call0 j) ρ = some (m, ρ')) : ev G (.callp j .nil) ρ = some (m, ρ') := by
  unfold ev at h
  unfold ev evf
  exact h
theorem snd_call0 (ok : Ok Z G Cl sc so X) {j : Str} {x : Str} {pp pos : Pos} {I : FnI} (hI : Z.fn j = some I) (hname : I.name = x) (hg : glB sc x = true) :
    PE X (.Call (.Name x pp) [] [] pos) (tE X.K Cl false (ev G (.call0 j))) := by
  obtain ⟨gl, hd, hn⟩ := ok.gl hg
  cases hF : G.fns j with
  | none =>
    refine ⟨fun pins s σ H Q I hh => ?_⟩
    obtain ⟨ρ, F, As, m, ρ', e, g, k⟩ := hh
    unfold ev at e
    unfold valOf at e
    rw [hF] at e; cases e
  | some fn =>
    obtain ⟨f, fd, k, hr, hm, hk, hb, hmu, _, F⟩ := ok.fns j I fn hI hF
    subst hname
    refine (pe_call0 F hr gl hm hk hb .nil pass0 (hdb := hd)).imp fun σ H Q q => ?_
    obtain ⟨ρ, F', As, m, ρ', e, g, k'⟩ := q
    obtain ⟨ρ, F', As, ms, ρ', e, g, k'⟩ := call_end hF hmu (⟨ρ, F', As, m, ρ', callp_call (call0_call e), g, k'⟩ : tE X.K Cl false (ev G (.call j .nil)) σ H Q)
    unfold evm at e
    split at e
    · cases e
      exact k' [] F' As (fun _ => non) H (Step.refl.less fun b h => h.elim id fun ⟨_, z⟩ => z.elim) g .nil (fun a ⟨_, z⟩ => z.elim) trivial
    · rename_i q; cases q
    · cases e
end
end Mk
set_option maxHeartbeats 4000000
/-! Mk: objects: their fields read, methods called, new ones made. -/
namespace Mk
open PySem L2
section
variable {K : PySem.W.Frag} {Cl : Nat → Option ClsI} {F H : Hp} {ρ : Slots} {σ : St} {As : Nat → AS} {G : Gc} {Z : Zs} {sc : Scope} {so : Str → Bool} {X : Cx}
theorem map_some_get {α β : Type} {f : α → Option β} : ∀ {xs : List α} {ys : List β}, xs.map f = ys.map some → ∀ (j : Nat) (a : α), xs[j]? = some a → ∃ b, ys[j]? = some b ∧ f a = some b
  | [], ys, h, j, a, e => by simp at e
  | x :: xs, [], h, j, a, e => by cases h
  | x :: xs, y :: ys, h, j, a, e => by
    rw [List.map_cons, List.map_cons] at h
    injection h with h1 h2
    cases j with
    | zero => simp at e; subst e; exact ⟨y, rfl, h1⟩
    | succ j => simpa using map_some_get h2 j a (by simpa using e)
theorem look_none {vfs : List (Str × V)} {ns : List Str} {m : Str} (h : ∀ p ∈ vfs, p.1 ∈ ns) (hm : m ∉ ns) : vfs.lookup m = none := by
  induction vfs with
  | nil => rfl
  | cons p vfs ih =>
    obtain ⟨x, v⟩ := p
    rw [List.lookup_cons]
    have hx : (m == x) = false := beq_eq_false_iff_ne.mpr fun e => hm (by rw [e]; exact h (x, v) List.mem_cons_self)
    rw [hx]
    exact ih fun q hq => h q (List.mem_cons_of_mem _ hq)
/-- a field as it stands in the heap -/
theorem fld_get (g : Good K Cl ρ σ F As H) {i f : Nat} {ci : ClsI} {a : Str} {t : T} (hf : ci.fs[f]? = some a) (h : fldV ρ i ci f = some t) : ∃ p dx vfs v, σ[i]? = some (some (.ref p)) ∧ H p = some (.ins ci.C dx vfs) ∧ vfs.lookup a = some v ∧ Rep1 K F H t v := by
  unfold fldV at h
  split at h
  · rename_i c fs e
    split at h
    · rename_i hc
      subst hc
      obtain ⟨v, ev, r⟩ := g.rep i _ e
      obtain ⟨p, dx, vfs, As', rfl, hd, f1, f2, ha, ho, hA, n1, n2, hl, hfl, hn, nd, sb⟩ := r
      have r := hfl f a hf
      unfold fldAt at h
      cases q : (fs[f]?).getD none with
      | none => rw [q] at h; cases h
      | some x =>
        rw [q] at h r
        cases h
        cases q2 : vfs.lookup a with
        | none => rw [q2] at r; exact r.elim
        | some v => rw [q2] at r; exact ⟨p, dx, vfs, v, ev, ha, q2, Rep1.of r⟩
    · cases h
  · rename_i c ts e
    split at h
    · rename_i hc
      subst hc
      obtain ⟨v, ev, r⟩ := g.rep i _ e
      have r : RepB K F H (.fz (.ob c ts)) v (As i) := r
      obtain ⟨_, r⟩ := r
      cases r with
      | ob hF rs hm hs =>
        obtain ⟨u, h1, h2⟩ := map_some_get hm f a hf
        obtain ⟨u', h3, h4⟩ := rs.get h
        rw [h1] at h3; cases h3
        exact ⟨_, _, _, u, ev, g.same _ _ hF, h2, .fz h4⟩
    · cases h
  · cases h
theorem fld_keep (g : Good K Cl ρ σ F As H) {i f : Nat} {ci : ClsI} {a : Str} {t : T} (hf : ci.fs[f]? = some a) (h : fldK ρ i ci f = some t) : ∃ p dx vfs v, σ[i]? = some (some (.ref p)) ∧ H p = some (.ins ci.C dx vfs) ∧ vfs.lookup a = some v ∧ RepT K F t v := by
  unfold fldK at h
  split at h
  · rename_i c fs e
    split at h
    · rename_i hc
      subst hc
      obtain ⟨v, ev, r⟩ := g.rep i _ e
      obtain ⟨p, dx, vfs, As', rfl, hd, f1, f2, ha, ho, hA, n1, n2, hl, hfl, hn, nd, sb⟩ := r
      have r := hfl f a hf
      unfold fldAt at h
      split at h
      · rename_i t' q
        cases h
        rw [q] at r
        cases q2 : vfs.lookup a with
        | none => rw [q2] at r; exact r.elim
        | some v => rw [q2] at r; exact ⟨p, dx, vfs, v, ev, ha, q2, r.2⟩
      · cases h
    · cases h
  · rename_i c ts e
    split at h
    · rename_i hc
      subst hc
      obtain ⟨v, ev, r⟩ := g.rep i _ e
      have r : RepB K F H (.fz (.ob c ts)) v (As i) := r
      obtain ⟨_, r⟩ := r
      cases r with
      | ob hF rs hm hs =>
        obtain ⟨u, h1, h2⟩ := map_some_get hm f a hf
        obtain ⟨u', h3, h4⟩ := rs.get h
        rw [h1] at h3; cases h3
        exact ⟨_, _, _, u, ev, g.same _ _ hF, h2, h4⟩
    · cases h
  · cases h
theorem clsC_some {cn : Str} {ci : ClsI} (h : clsC G cn = some ci) : G.consts cn = some (.cl ci) := by
  unfold clsC at h
  split at h
  · rename_i q; cases h; exact q
  · cases h
theorem fldB_some {cn a : Str} {f : Nat} (h : fldB Z cn f a = true) : ∃ I, Z.cl cn = some I ∧ I.fs[f]? = some a := by
  unfold fldB at h
  split at h
  · rename_i I q; exact ⟨I, q, beq_iff_eq.mp h⟩
  · cases h
/-- what an attribute of a slot's object reads: as it stands -/
def tFB (K : PySem.W.Frag) (Cl : Nat → Option ClsI) (G : Gc) (i : Nat) (cn : Str) (f : Nat) : TE := fun σ H Q => ∃ ρ F As ci t, Good K Cl ρ σ F As H ∧ clsC G cn = some ci ∧ fldV ρ i ci f = some t ∧ ∀ v, Rep1 K F H t v → Q v H
theorem abase_name {x a : Str} {p : Pos} {env : Env} {w : Sem Value} : attributeBase (.Name x p) a env w = w := rfl
theorem pe_fb (ok : Ok Z G Cl sc so X) {i f : Nat} {cn x a : Str} {px pos : Pos} (hv : varB Z sc i x = true) (hf : fldB Z cn f a = true) : PE X (.Attribute (.Name x px) a pos) (tFB X.K Cl G i cn f) := by
  obtain ⟨I, h1, h2⟩ := fldB_some hf
  refine (pe_fld (pos := pos) (f := a) (ok.name (pos := px) hv) abase_name).imp fun σ H Q q => ?_
  obtain ⟨ρ, F, As, ci, t, g, hc, ht, k⟩ := q
  obtain ⟨e1, e2, e3, e4, e5, e6⟩ := ok.cls cn I ci h1 (clsC_some hc)
  have hfs : ci.fs[f]? = some a := by rw [e1]; exact h2
  obtain ⟨p, dx, vfs, v, g1, g2, g3, g4⟩ := fld_get g hfs ht
  exact ⟨.ref p, g1, p, ci.C, dx, vfs, v, rfl, g2, e2, e3 a (List.mem_of_getElem? hfs), g3, k v g4⟩
theorem snd_fld (ok : Ok Z G Cl sc so X) {i f : Nat} {cn x a : Str} {px pos : Pos} (hv : varB Z sc i x = true) (hf : fldB Z cn f a = true) : PE X (.Attribute (.Name x px) a pos) (tE X.K Cl true (ev G (.fld i cn f))) := by
  obtain ⟨I, h1, h2⟩ := fldB_some hf
  refine (pe_fld (pos := pos) (f := a) (ok.name (pos := px) hv) abase_name).imp fun σ H Q q => ?_
  obtain ⟨ρ, F, As, m, ρ', e, g, k⟩ := q
  unfold ev at e
  obtain ⟨ci, hc, e⟩ := obd_some e
  obtain ⟨t, ht, e⟩ := obd_some e
  cases e
  obtain ⟨e1, e2, e3, e4, e5, e6⟩ := ok.cls cn I ci h1 (clsC_some hc)
  have hfs : ci.fs[f]? = some a := by rw [e1]; exact h2
  obtain ⟨p, dx, vfs, v, g1, g2, g3, g4⟩ := fld_keep g hfs ht
  exact ⟨.ref p, g1, p, ci.C, dx, vfs, v, rfl, g2, e2, e3 a (List.mem_of_getElem? hfs), g3, k v F As non H (Step.refl.less fun b h => h.elim id fun z => z.elim) g ⟨fun _ h => h, g4⟩ fun _ h => h.elim⟩
theorem snd_fidx (ok : Ok Z G Cl sc so X) {i f : Nat} {cn x a : Str} {px p2 pos : Pos} {b : Expr} {eb : E} (hv : varB Z sc i x = true) (hf : fldB Z cn f a = true) (hi : PlainIx b) (hb : PE X b (tV X.K Cl eb.vs eb.slot? (ev G eb))) :
    PE X (.Subscript (.Attribute (.Name x px) a p2) b pos) (tE X.K Cl eb.vs (ev G (.fidx i cn f eb))) := by
  refine (pe_ix (q_idx (Cl := Cl)) (pe_fb ok hv hf) hb hi).imp fun σ H Q q => ?_
  obtain ⟨ρ, F, As, m, ρ', e, g, k⟩ := q
  unfold ev at e
  split at e
  · rename_i hvs
    obtain ⟨ci, hc, e⟩ := obd_some e
    obtain ⟨t, ht, e⟩ := obd_some e
    obtain ⟨kx, ρ1, e1, e⟩ := bnd_some e
    obtain ⟨m', e2, e⟩ := obd_some e
    cases e
    refine ⟨ρ, F, As, ci, t, g, hc, ht, fun v r => ⟨ρ, F, As, kx, ρ', e1, g, fun w F1 As1 H1 st1 g1 r1 _ => ?_⟩⟩
    refine ⟨F1, [t, kx], m, g1.same, .cons (r.mono st1.hf (st1.pur hvs)) (.cons r1 .nil), e2, fun v2 F2 H2 A st2 s2 r2 => ?_⟩
    obtain ⟨g2, st2', d2⟩ := g1.after st2 s2
    exact k v2 F2 As1 A H2 ((st1.trans st2').weak fun z => by rw [hvs]; rfl) g2 r2 d2
  · cases e
theorem snd_flen (ok : Ok Z G Cl sc so X) {i f : Nat} {cn x a l : Str} {px p1 p2 pos : Pos} (hl : l = "len") (hg : glB sc l = true) (hx : Z.bl.contains l = true) (hv : varB Z sc i x = true) (hf : fldB Z cn f a = true) :
    PE X (.Call (.Name l p1) [.Attribute (.Name x px) a p2] [] pos) (tE X.K Cl true (ev G (.flen i cn f))) := by
  obtain ⟨gl, hd, hn⟩ := ok.gl hg
  have hm := ok.bl l (List.contains_iff_mem.mp hx)
  subst hl
  have hs : starEach [Expr.Attribute (.Name x px) a p2] X.env = (false, eval (Expr.Attribute (.Name x px) a p2) X.env) :: starEach [] X.env := rfl
  refine (pe_callB (CallR.imp (c_len (Cl := Cl)) fun _ _ _ q => rp_one (one_of (p := .len) rfl) q) gl hm (by decide +kernel) (pa_cons (pe_fb ok hv hf) pa_nil hs) hn hd hs rfl).imp fun σ H Q q => ?_
  obtain ⟨ρ, F, As, m, ρ', e, g, k⟩ := q
  unfold ev at e
  obtain ⟨ci, hc, e⟩ := obd_some e
  obtain ⟨t, ht, e⟩ := obd_some e
  obtain ⟨m', e2, e⟩ := obd_some e
  cases e
  refine ⟨ρ, F, As, ci, t, g, hc, ht, fun v r => ?_⟩
  refine ⟨F, [t], m, g.same, .cons r .nil, e2, fun v2 F2 H2 A st2 s2 r2 => ?_⟩
  obtain ⟨g2, st2', d2⟩ := g.after st2 s2
  exact k v2 F2 As A H2 st2' g2 r2 d2
/-! methods -/
theorem inst_of {m : M} {v : V} {A : AS} {ci : ClsI} (s : Same F H) (r : RepM K Cl F H m v A) (h : isObM ci m = true) : ∃ a dx vfs, v = .ref a ∧ H a = some (.ins ci.C dx vfs) ∧ ∀ p ∈ vfs, p.1 ∈ ci.fs := by
  unfold isObM at h
  split at h
  · rename_i c fs
    have hc : c = ci := by simpa using h
    subst hc
    obtain ⟨a, dx, vfs, As', rfl, hd, f1, f2, ha, ho, hA, n1, n2, hl, hfl, hn, nd, sb⟩ := r
    exact ⟨a, dx, vfs, rfl, ha, sb⟩
  · rename_i c ts
    have hc : c = ci := by simpa using h
    subst hc
    have r : RepB K F H (.fz (.ob c ts)) v A := r
    obtain ⟨_, r⟩ := r
    cases r with
    | ob hF rs hm hs => exact ⟨_, _, _, rfl, s _ _ hF, hs⟩
  · cases h
theorem meth_end {j cn mn : Str} {e : E} {es : Es} {ci : ClsI} {fn : Fn} {n : Nat} {Q : VK} (hc : clsC G cn = some ci) (hF : G.fns j = some fn) (hn : fn.mu.length = n) (hm : mn ∉ ci.fs) (h : tE K Cl false (ev G (.meth j cn (.cons e es))) σ H Q) :
    ∃ c mu, fn.mu = c :: mu ∧ (match c, e.slot? with
      | true, some i => tMeth ci.C mn (spOf K Cl fn n) [] E0 (tVar i) (tAm K Cl es mu (evm G mu es)) σ H Q
      | true, none => tMeth ci.C mn (spOf K Cl fn n) [] E0 (tE K Cl false (ev G e)) (tAm K Cl es mu (evm G mu es)) σ H Q
      | false, _ => tMeth ci.C mn (spOf K Cl fn n) [] E0 (tF K Cl false fun ρ => f1 (ev G e ρ)) (tAm K Cl es mu (evm G mu es)) σ H Q) := by
  obtain ⟨ρ, F, As, m, ρ', e0, g, k⟩ := h
  unfold ev at e0
  rw [hc, obd_ok] at e0
  split at e0
  case isFalse => cases e0
  rename_i hpre
  rw [hF, obd_ok] at e0
  obtain ⟨ms, ρ1, e1, e0⟩ := bnd_some e0
  split at e0
  case isFalse => cases e0
  rename_i hhead
  obtain ⟨m', ms', e2, e0⟩ := bnd_some e0
  cases e0
  have fin := fun {vs : List V} {F1 : Hp} {As1 Bs : Nat → AS} {H1 : Hp} (st1 : Step false F (Own As) H F1 ((Own As1).or (Own Bs)) H1) (g1 : Good K Cl ρ1 σ F1 As1 H1) (r1 : RepMs K Cl F1 H1 ms vs Bs) (d1 : ∀ a, Own Bs a → ¬ Own As1 a) (l1 : Lent (.cons e es) fn.mu vs σ) => call_fin (n := n) hn e1 e2 k st1 g1 r1 d1 l1
  cases hmu : fn.mu with
  | nil => rw [hmu] at e1; unfold evm at e1; cases e1
  | cons c mu =>
    refine ⟨c, mu, rfl, ?_⟩
    rw [hmu] at e1 fin
    cases c with
    | false =>
      unfold evm at e1
      obtain ⟨m0, ρa, e3, e1⟩ := bnd_some e1
      obtain ⟨t, e4, e1⟩ := obd_some e1
      obtain ⟨us, ρ2, e5, e1⟩ := bnd_some e1
      cases e1
      have goal : tMeth ci.C mn (spOf K Cl fn n) [] E0 (tF K Cl false fun ρ => f1 (ev G e ρ)) (tAm K Cl es mu (evm G mu es)) σ H Q := by
        refine ⟨ρ, F, As, t, ρa, by unfold f1; simp only [e3, bnd_ok, e4, obd_ok], g, fun v F1 As1 H1 st1 g1 r1 => ?_⟩
        obtain ⟨a, dx, vfs, rfl, ha, hs⟩ := inst_of (A := non) (Cl := Cl) g1.same (m := mt t) ⟨fun _ h => h, r1⟩ hhead
        refine ⟨a, dx, vfs, rfl, ha, look_none hs hm, ?_⟩
        exact am_rest (c := false) (e := e) (Q := fun vs H2 => spOf K Cl fn n (vs ++ []) H2 Q E0) e5 (fun vs F' As' Bs H' st2 g2 r2 d2 l2 => by rw [List.append_nil]; exact fin st2 g2 r2 d2 l2) (A := non) (st1.less fun b h => h.elim id fun z => z.elim) g1 (show RepM K Cl F1 H1 (mt t) (.ref a) non from ⟨fun _ h => h, r1⟩) (fun _ h => h.elim) fun z => by cases z
      cases e.slot? <;> exact goal
    | true =>
      cases hsl : e.slot? with
      | none =>
        unfold evm at e1
        simp only [hsl] at e1
        obtain ⟨m0, ρa, e3, e1⟩ := bnd_some e1
        obtain ⟨us, ρ2, e5, e1⟩ := bnd_some e1
        cases e1
        show tMeth ci.C mn (spOf K Cl fn n) [] E0 (tE K Cl false (ev G e)) (tAm K Cl es mu (evm G mu es)) σ H Q
        refine ⟨ρ, F, As, m0, ρa, e3, g, fun v F1 As1 A H1 st1 g1 r1 d1 => ?_⟩
        obtain ⟨a, dx, vfs, rfl, ha, hs⟩ := inst_of g1.same r1 hhead
        refine ⟨a, dx, vfs, rfl, ha, look_none hs hm, ?_⟩
        exact am_rest (c := true) (e := e) (Q := fun vs H2 => spOf K Cl fn n (vs ++ []) H2 Q E0) e5 (fun vs F' As' Bs H' st2 g2 r2 d2 l2 => by rw [List.append_nil]; exact fin st2 g2 r2 d2 l2) st1 g1 r1 d1 fun _ i hi => by rw [hsl] at hi; cases hi
      | some i =>
        have hpre : (match ρ[i]? with
          | some (some m) => isObM ci m
          | _ => false) = true := by
          have hp2 : preOb ci e.slot? ρ = true := hpre
          rw [hsl] at hp2
          exact hp2
        unfold evm at e1
        simp only [hsl] at e1
        split at e1
        case h_2 => cases e1
        rename_i m0 hm0
        rw [hm0] at hpre
        obtain ⟨us, ρ2, e5, e1⟩ := bnd_some e1
        split at e1
        case h_2 => cases e1
        rename_i m1 hm1
        cases e1
        show tMeth ci.C mn (spOf K Cl fn n) [] E0 (tVar i) (tAm K Cl es mu (evm G mu es)) σ H Q
        obtain ⟨v, ev', r0⟩ := g.rep i m0 hm0
        obtain ⟨a, dx, vfs, rfl, ha, hs⟩ := inst_of g.same r0 hpre
        refine ⟨.ref a, ev', a, dx, vfs, rfl, ha, look_none hs hm, ρ, F, As, us, ρ2, e5, g, fun vs F2 As2 Bs H2 st2 g2 r2 d2 l2 => ?_⟩
        obtain ⟨v', ev2, r⟩ := g2.rep i m1 hm1
        rw [ev'] at ev2; cases ev2
        rw [List.append_nil]
        refine fin (As1 := updA As2 i non) (Bs := consA (As2 i) Bs) (st2.less fun b h => ?_) (g2.clr i) (r2.cons r fun a ha hb => d2 a hb ⟨i, ha⟩) (fun a ha hb => ?_) ⟨fun _ j hj => by rw [hsl] at hj; cases hj; exact ev', l2⟩
        · rcases h with h | h
          · exact (own_upd b h).elim .inl fun z => z.elim
          · rcases own_cons.mp h with h | h
            · exact .inl ⟨i, h⟩
            · exact .inr h
        · rcases own_cons.mp ha with h | h
          · exact g2.apart i a h hb
          · exact d2 a h ((own_upd a hb).elim id fun z => z.elim)
theorem mcall_tree {o : Expr} {m : Str} {apos pos : Pos} {args : List Expr} {env : Env} (hb : attributeBase o m env (eval o env) = eval o env) (hf : methodCallForm (args.length + 0) (backTo pos (starEach args env)) (backToKw pos (keywordEach [] env)) = true) (hl : (apos.endLine == pos.line) = true) :
    eval (.Call (.Attribute o m apos) args [] pos) env = (do
      let ov ← eval o env
      standAt apos.atName
      let (f, first) ← holding [ov] (getMethod ov m (do return (← importBound o env).getD true))
      callWith pos f first (backTo pos (starEach args env)) (backToKw pos (keywordEach [] env))) := by
  refine mcall_of (t := fun ov => do
      let (f, first) ← holding [ov] (getMethod ov m (do return (← importBound o env).getD true))
      callWith pos f first (backTo pos (starEach args env)) (backToKw pos (keywordEach [] env))) hb fun ov => ?_
  have hf' : methodCallForm (args.length + ([] : List Keyword).length) (backTo pos (starEach args env)) (backToKw pos (keywordEach [] env)) = true := hf
  unfold methodCall calleeOf methodCallPos
  rw [hf']
  simp only [hl]
  rfl
theorem am_nil {mu : List Bool} {Q : List V → Hp → Prop} (q : tAm K Cl .nil mu (evm G mu .nil) σ H Q) : Q [] H := by
  obtain ⟨ρ, F, As, ms, ρ', e, g, k⟩ := q
  unfold evm at e
  split at e
  · cases e
    exact k [] F As (fun _ => non) H (Step.refl.less fun b h => h.elim id fun ⟨_, z⟩ => z.elim) g .nil (fun a ⟨_, z⟩ => z.elim) trivial
  · rename_i q; cases q
  · cases e
theorem mth_some {j cn m : Str} (h : mthB Z j cn m = true) : ∃ I C, Z.mt j = some I ∧ I.cn = cn ∧ I.m = m ∧ m ≠ "__init__" ∧ Z.cl cn = some C := by
  unfold mthB at h
  split at h
  · rename_i I q
    simp only [Bool.and_eq_true, beq_iff_eq, Bool.not_eq_true', beq_eq_false_iff_ne, Option.isSome_iff_exists] at h
    obtain ⟨⟨⟨h1, h2⟩, h3⟩, C, h4⟩ := h
    exact ⟨I, C, q, h1, h2, h3, h4⟩
  · cases h
theorem recv_base {o : Expr} {m : Str} {env : Env} {w : Sem Value} (h : recvOk o = true) : attributeBase o m env w = w := by
  unfold recvOk at h
  split at h
  · rfl
  · rfl
  · cases h
theorem form_of {pos : Pos} {env : Env} : ∀ {args : List Expr}, (∀ (e : Expr) (es : List Expr), e ∈ args → starEach (e :: es) env = (false, eval e env) :: starEach es env) → args.length < 29 → methodCallForm (args.length + 0) (backTo pos (starEach args env)) (backToKw pos (keywordEach [] env)) = true := by
  intro args h hl
  have all : ∀ {as : List Expr}, (∀ (e : Expr) (es : List Expr), e ∈ as → starEach (e :: es) env = (false, eval e env) :: starEach es env) → (backTo pos (starEach as env)).all (!·.1) = true := by
    intro as
    induction as with
    | nil => intro _; rfl
    | cons a as ih =>
      intro h
      rw [h a as List.mem_cons_self]
      show (true && (backTo pos (starEach as env)).all (!·.1)) = true
      rw [ih fun e es he => h e es (List.mem_cons_of_mem _ he)]
      rfl
  unfold methodCallForm
  rw [all h]
  simp [keywordEach, backToKw]
  omega
theorem stars_of {es : Es} : ∀ {args : List Expr}, chkEs Z es sc so args = true → ∀ (e : Expr) (r : List Expr), e ∈ args → starEach (e :: r) X.env = (false, eval e X.env) :: starEach r X.env := by
  intro args
  induction args generalizing es with
  | nil => intro _ e r he; cases he
  | cons a args ih =>
    intro h e r he
    cases es with
    | nil => unfold chkEs at h; cases h
    | cons x es =>
      unfold chkEs at h
      rw [Bool.and_eq_true] at h
      rcases List.mem_cons.mp he with rfl | he
      · exact star_of h.1
      · exact ih h.2 e r he
theorem snd_meth (ok : Ok Z G Cl sc so X) {j cn m : Str} {e : E} {es : Es} {o : Expr} {args : List Expr} {apos pos : Pos} (hm : mthB Z j cn m = true) (hr : recvOk o = true) (hl : (apos.endLine == pos.line) = true) (h29 : args.length < 29) (ho : chkE Z e sc so o = true)
    (pe : PE X o (tE X.K Cl e.vs (ev G e))) (sv : ∀ i, e.slot? = some i → PE X o (tVar i)) (hc : chkEs Z es sc so args = true) (pa : ∀ mu, PA X args (tAm X.K Cl es mu (evm G mu es))) :
    PE X (.Call (.Attribute o m apos) args [] pos) (tE X.K Cl false (ev G (.meth j cn (.cons e es)))) := by
  obtain ⟨I, C, h1, h2, h3, h4, h5⟩ := mth_some hm
  subst h2 h3
  cases hci : clsC G I.cn with
  | none =>
    refine ⟨fun pins s σ H Q Iv hh => ?_⟩
    obtain ⟨ρ, F, As, m, ρ', e0, g, k⟩ := hh
    unfold ev at e0; rw [hci] at e0; cases e0
  | some ci =>
    cases hF : G.fns j with
    | none =>
      refine ⟨fun pins s σ H Q Iv hh => ?_⟩
      obtain ⟨ρ, F, As, m, ρ', e0, g, k⟩ := hh
      unfold ev at e0; rw [hci, obd_ok] at e0
      split at e0
      · rw [hF] at e0; cases e0
      · cases e0
    | some fn =>
      obtain ⟨c1, c2, c3, c4, c5, c6⟩ := ok.cls I.cn C ci h5 (clsC_some hci)
      obtain ⟨f, fd, k, hrm, _, hmt, hb, hmu, FO⟩ := ok.mts j I fn ci h1 hF (clsC_some hci)
      obtain ⟨hmeth, hnf⟩ := hmt h4
      have tree := mcall_tree (o := o) (m := I.m) (apos := apos) (pos := pos) (args := args) (env := X.env) (recv_base hr) (form_of (stars_of hc) h29) hl
      have rule : ∀ {ta : TE} {mu : List Bool}, PE X o ta → PE X (.Call (.Attribute o I.m apos) args [] pos) (tMeth ci.C I.m (spOf X.K Cl fn I.ps.length) [] E0 ta (tAm X.K Cl es mu (evm G mu es))) := fun {ta mu} po => by
        have pt := pa mu
        cases args with
        | nil =>
          cases es with
          | cons _ _ => unfold chkEs at hc; cases hc
          | nil =>
            have ta0 : ∀ σ H R, tAm X.K Cl .nil mu (evm G mu .nil) σ H R → R [] H := fun σ H R q => am_nil q
            refine ⟨fun pins s σ H Q Iv h => ?_⟩
            refine PySem.W.methodCall_KW (thn (po.run pins s σ H _ Iv h) fun u s1 ⟨x, H1, I1, rx, a, dx, fs, ex, ea, l, q⟩ => ?_) tree
            subst ex
            obtain rfl : u = Value.ref a := rx
            refine getmeth_ok I1 ea c2 hmeth l ?_
            exact PySem.W.callWith_K0 (first := [.ref a]) I1.kIn hmeth.kp (run_fn (us := [.ref a]) (vs := [.ref a]) FO (hrm.mono (by omega)) hb .nil pass0 I1 (.cons rfl .nil) (ta0 _ _ _ q))
        | cons a r =>
          cases es with
          | nil => unfold chkEs at hc; cases hc
          | cons x es =>
            unfold chkEs at hc
            rw [Bool.and_eq_true] at hc
            exact pe_meth po c2 hmeth FO (hrm.mono (by omega)) hb .nil pass0 pt (star_of hc.1) (plain_of hc.2) tree
      cases hmm : fn.mu with
      | nil =>
        refine ⟨fun pins s σ H Q Iv hh => ?_⟩
        obtain ⟨c, mu, e1, _⟩ := meth_end hci hF hmu hnf hh
        rw [hmm] at e1; cases e1
      | cons c mu =>
        cases c with
        | false =>
          refine (rule (mu := mu) pe.keptN).imp fun σ H Q q => ?_
          obtain ⟨c, mu', e1, r⟩ := meth_end hci hF hmu hnf q
          rw [hmm] at e1
          cases e1
          exact r
        | true =>
          cases hsl : e.slot? with
          | none =>
            refine (rule (mu := mu) (pe.imp fun σ H Q q => tE_pu (p := false) (fun z => by cases z) q)).imp fun σ H Q q => ?_
            obtain ⟨c, mu', e1, r⟩ := meth_end hci hF hmu hnf q
            rw [hmm] at e1
            cases e1
            rw [hsl] at r
            exact r
          | some i =>
            refine (rule (mu := mu) (sv i hsl)).imp fun σ H Q q => ?_
            obtain ⟨c, mu', e1, r⟩ := meth_end hci hF hmu hnf q
            rw [hmm] at e1
            cases e1
            rw [hsl] at r
            exact r
theorem methp_meth {j cn : Str} {es : Es} {ρ ρ' : Slots} {m : M} (h : ev G (.methp j cn es) ρ = some (m, ρ')) (hp : ∀ ci, clsC G cn = some ci → preOb ci es.hslot ρ = true) : ev G (.meth j cn es) ρ = some (m, ρ') := by
  unfold ev at h
  obtain ⟨ci, hc, h⟩ := obd_some h
  obtain ⟨ts, ρ1, e1, h⟩ := bnd_some h
  split at h
  · rename_i hh
    obtain ⟨m', e2, h⟩ := obd_some h
    cases h
    unfold ev
    rw [hc, obd_ok, if_pos (hp ci hc)]
    unfold valOf at e2
    cases q : G.fns j with
    | none => rw [q] at e2; cases e2
    | some F =>
      rw [q, obd_ok] at e2
      rw [obd_ok]
      split at e2
      · rename_i hmu
        cases q2 : F.sem (ts.map mt) with
        | none => rw [q2] at e2; cases e2
        | some p =>
          rw [q2] at e2; cases e2
          rw [hmu, evm_false e1 rfl, bnd_ok, if_pos hh, q2]
          show some (p.1, backM es (List.replicate ts.length false) p.2 ρ') = _
          rw [backM_false (ms := [])]
      · cases e2
  · cases h
theorem pre_of {cn : Str} {es : Es} {ρ ρ' : Slots} {m : M} {j : Str} (h : ev G (.methp j cn es) ρ = some (m, ρ')) : ∀ ci, clsC G cn = some ci → preOb ci es.hslot ρ = true := fun ci hc => by
  unfold ev at h
  rw [hc, obd_ok] at h
  obtain ⟨ts, ρ1, e1, h⟩ := bnd_some h
  split at h
  · rename_i hh
    cases es with
    | nil => unfold evf at e1; cases e1; cases hh
    | cons e es =>
      unfold evf at e1
      obtain ⟨m0, ρ2, e2, e1⟩ := bnd_some e1
      obtain ⟨t, e3, e1⟩ := obd_some e1
      obtain ⟨us, ρ3, e4, e1⟩ := bnd_some e1
      cases e1
      have hh : isObM ci (mt t) = true := hh
      show preOb ci e.slot? ρ = true
      cases e with
      | var i =>
        show (match ρ[i]? with
          | some (some m) => isObM ci m
          | _ => false) = true
        unfold ev at e2
        split at e2
        · rename_i t' q; cases e2; cases e3; rw [q]; exact hh
        · rename_i x hn q
          cases e2
          cases e3
          cases x with
          | fz t => exact absurd rfl (hn t)
          | ls _ => cases hh
          | dk _ => cases hh
          | dt _ => cases hh
        · cases e2
      | _ => rfl
  · cases h
/-! a new object -/
theorem new_some {j cn : Str} {n : Nat} (h : newB Z j cn n = true) : ∃ I C, Z.mt j = some I ∧ I.cn = cn ∧ I.m = "__init__" ∧ Z.cl cn = some C ∧ C.fs.length = n := by
  unfold newB at h
  split at h
  · rename_i I C q1 q2
    simp only [Bool.and_eq_true, beq_iff_eq] at h
    exact ⟨I, C, q1, h.1.1, h.1.2, q2, h.2⟩
  · cases h
theorem rep_none (n j : Nat) : ((List.replicate n (none : Option B))[j]?).getD none = none := by
  by_cases h : j < n
  · rw [List.getElem?_eq_getElem (by rw [List.length_replicate]; exact h), List.getElem_replicate]; rfl
  · rw [List.getElem?_eq_none (by rw [List.length_replicate]; omega)]; rfl
theorem snd_new (ok : Ok Z G Cl sc so X) {j cn x : Str} {n : Nat} {es : Es} {a : Expr} {args : List Expr} {pp pos : Pos} (hx : x = cn) (hg : glB sc x = true) (hn : newB Z j cn n = true) (pa : PA X (a :: args) (tAf X.K Cl (evf G es)))
    (he : starEach (a :: args) X.env = (false, eval a X.env) :: starEach args X.env) (hpl : (backTo pos (starEach args X.env)).any (·.1) = false) : PE X (.Call (.Name x pp) (a :: args) [] pos) (tE X.K Cl false (ev G (.new j cn n es))) := by
  subst hx
  obtain ⟨gl, hd, hnn⟩ := ok.gl hg
  obtain ⟨I, C, h1, h2, h3, h4, h5⟩ := new_some hn
  subst h2
  have nope : (∀ ρ r, ev G (.new j I.cn n es) ρ ≠ some r) → PE X (.Call (.Name I.cn pp) (a :: args) [] pos) (tE X.K Cl false (ev G (.new j I.cn n es))) := fun hh => ⟨fun pins s σ H Q Iv h => by
    obtain ⟨ρ, F, As, m, ρ', e, g, k⟩ := h
    exact absurd e (hh ρ _)⟩
  cases hci : clsC G I.cn with
  | none =>
    refine nope fun ρ r e => ?_
    unfold ev at e
    obtain ⟨ts, ρ1, _, e⟩ := bnd_some (z := r) e
    rw [hci] at e; cases e
  | some ci =>
    cases hF : G.fns j with
    | none =>
      refine nope fun ρ r e => ?_
      unfold ev at e
      obtain ⟨ts, ρ1, _, e⟩ := bnd_some (z := r) e
      rw [hci, obd_ok, hF] at e; cases e
    | some fn =>
      obtain ⟨c1, c2, c3, c4, c5, c6⟩ := ok.cls I.cn C ci h4 (clsC_some hci)
      obtain ⟨f, fd, k, hrm, hmk, _, hb, hmu, FO⟩ := ok.mts j I fn ci h1 hF (clsC_some hci)
      refine (pe_make (hmk h3) FO hrm gl c6 hb .nil pass0 pa hd he hpl).imp fun σ H Q q => ?_
      obtain ⟨ρ, F, As, m, ρ', e, g, kk⟩ := q
      unfold ev at e
      obtain ⟨ts, ρ1, e1, e⟩ := bnd_some e
      rw [hci, obd_ok, hF, obd_ok] at e
      split at e
      case isFalse => cases e
      rename_i hmm
      obtain ⟨m', ms', e2, e⟩ := bnd_some e
      obtain ⟨m2, e3, e⟩ := obd_some e
      cases e
      obtain ⟨hm', rest, hms⟩ : m' = mt .non ∧ ∃ rest, ms' = some m :: rest := by
        unfold madeOf at e3
        split at e3
        · cases e3; exact ⟨rfl, _, rfl⟩
        · cases e3
      subst hm' hms
      refine ⟨ρ, F, As, ts, ρ', e1, g, fun vs F1 As1 H1 st1 g1 r1 => fun x dx nx ndx ne => ?_⟩
      rw [List.append_nil]
      have lv : vs.length = ts.length := r1.length.symm
      have lps : I.ps.length = ts.length + 1 := by rw [← hmu, hmm]; simp
      obtain ⟨H2, hH2⟩ : ∃ H2, H2 = upd (upd H1 dx (.own x)) x (.ins ci.C dx []) := ⟨_, rfl⟩
      rw [← hH2]
      have hx2 : H2 x = some (.ins ci.C dx []) := by rw [hH2, upd_same]
      have hdx2 : H2 dx = some (.own x) := by rw [hH2, upd_ne ne, upd_same]
      have s12 : Same H1 H2 := fun b o e => by rw [hH2, upd_ne (ne_of_none e nx), upd_ne (ne_of_none e ndx)]; exact e
      obtain ⟨A0, hA0⟩ : ∃ A0 : AS, A0 = fun b => b = x ∨ b = dx := ⟨_, rfl⟩
      have st2 : Step false F1 (Own As1) H1 F1 ((Own As1).or A0) H2 := ⟨Same.refl F1, fun b o e _ => s12 b o e, fun b h => by
        rcases h with h | h
        · exact .inl h
        · rw [hA0] at h
          rcases h with rfl | rfl
          · exact .inr nx
          · exact .inr ndx, fun b o e => .inl e, fun z => by cases z⟩
      have r0 : RepM X.K Cl F1 H2 (.ob ci (List.replicate n none)) (.ref x) A0 := by
        refine ⟨x, dx, [], fun _ => non, rfl, ne, g1.same.free nx, g1.same.free ndx, hx2, hdx2, fun b => ?_, fun _ => ⟨fun h => h, fun h => h⟩, fun _ _ _ _ h => h.elim, by rw [List.length_replicate, c1, h5], fun j f _ => ?_, fun _ _ _ h => h, List.nodup_nil, fun p hp => by cases hp⟩
        · rw [hA0]
          exact ⟨fun h => h.elim .inl fun z => .inr (.inl z), fun h => h.elim .inl fun z => z.elim .inr fun ⟨_, y⟩ => y.elim⟩
        · rw [rep_none]
          exact fun _ h => h
      have a01 : ∀ b, A0 b → ¬ Own As1 b := fun b hb ⟨i, hi⟩ => by
        obtain ⟨_, o, e⟩ := g1.own hi
        rw [hA0] at hb
        rcases hb with rfl | rfl
        · rw [nx] at e; cases e
        · rw [ndx] at e; cases e
      let Bs : Nat → AS := fun i => if i = 0 then A0 else non
      have hBs : ∀ b, Own Bs b ↔ A0 b := fun b => ⟨fun ⟨i, h⟩ => by
        by_cases hi : i = 0
        · subst hi; exact h
        · have h : (if i = 0 then A0 else non) b := h
          rw [if_neg hi] at h; exact h.elim, fun h => ⟨0, h⟩⟩
      refine ⟨by simp [lv, lps], F1, Bs, _, mt .non, some m :: rest, e2, by simp [lps], by rw [hmu], g1.same.trans s12, fun i mi hmi => ?_, fun i j a hne h1 h2 => ?_, fun i hi a ha => ?_, fun i hi => ?_, ?_⟩
      · cases i with
        | zero => simp at hmi; subst hmi; exact ⟨.ref x, rfl, r0⟩
        | succ i =>
          simp only [List.getElem?_cons_succ, List.getElem?_map] at hmi
          cases hti : ts[i]? with
          | none => rw [hti] at hmi; cases hmi
          | some t =>
            rw [hti] at hmi; cases hmi
            obtain ⟨v, h1, h2⟩ := r1.get hti
            exact ⟨v, by simpa using h1, fun _ h => h, h2⟩
      · have h1 : (if i = 0 then A0 else non) a := h1
        have h2 : (if j = 0 then A0 else non) a := h2
        by_cases hi : i = 0
        · by_cases hj : j = 0
          · exact hne (hi.trans hj.symm)
          · rw [if_neg hj] at h2; exact h2
        · rw [if_neg hi] at h1; exact h1
      · have ha : (if i = 0 then A0 else non) a := ha
        rw [if_neg (by omega)] at ha; exact ha
      · cases i with
        | zero => rw [hmm] at hi; cases hi
        | succ i =>
          have hlt : i < ts.length := by
            have := (List.getElem?_eq_some_iff.mp hi).1
            rw [hmm] at this
            simpa using this
          exact ⟨ts[i], by simp [hlt]⟩
      · intro v F2 Cs A H3 st3 s3 r3 dC dA hmt2 hno
        obtain ⟨_, r3⟩ := (show RepB X.K F2 H3 (.fz .non) v A from r3)
        cases r3
        refine ⟨rfl, ?_⟩
        obtain ⟨mi, vi, i1, i2, i3⟩ := hmt2 0 (by rw [hmm]; rfl)
        cases i1; cases i2
        have st3' : Step false F1 A0 H2 F2 ((Own Cs).or A) H3 := st3.more fun b h => (hBs b).1 h
        have g2 : Good X.K Cl ρ' σ F1 As1 H2 := by
          refine ⟨g1.same.trans s12, fun i m e => ?_, g1.out, g1.dis, g1.len⟩
          obtain ⟨v, ev, r⟩ := g1.rep i m e
          exact ⟨v, ev, r.mono (Same.refl F1) (fun a ha => (r.own a ha).1) fun a o _ e => s12 a o e⟩
        have as2 : ∀ b, Own As1 b → ¬ A0 b := fun b hb ha => a01 b ha hb
        have g3 : Good X.K Cl ρ' σ F2 As1 H3 := by
          refine ⟨s3, fun i m e => ?_, g2.out, g2.dis, g2.len⟩
          obtain ⟨v, ev, r⟩ := g2.rep i m e
          exact ⟨v, ev, (st3'.held r fun b hb => as2 b ⟨i, hb⟩).1⟩
        have apart : ∀ b, Own As1 b → ¬ ((Own Cs).or A) b := fun b ⟨i, hb⟩ => by
          by_cases hm : ∃ m, ρ'[i]? = some (some m)
          · obtain ⟨m, e⟩ := hm
            obtain ⟨v, ev, r⟩ := g2.rep i m e
            exact (st3'.held r fun b hb => as2 b ⟨i, hb⟩).2 b hb
          · exact absurd hb (g2.out i (fun m q => hm ⟨m, q⟩) b)
        have st4 : Step false F1 ((Own As1).or A0) H2 F2 (((Own Cs).or A).or (Own As1)) H3 := (st3'.with (A := Own As1)).more fun b h => h.elim .inr .inl
        refine kk (.ref x) F2 As1 (Cs 0) H3 ((((st1.trans st2).trans st4).less fun b h => ?_).weak fun z => by cases z) g3 i3 fun b hb ho => apart b ho (.inl ⟨0, hb⟩)
        rcases h with h | h
        · exact .inr h
        · exact .inl (.inl ⟨0, h⟩)
end
end Mk
set_option maxHeartbeats 4000000
/-! Mk: targets, what is walked, comprehensions. -/
namespace Mk
open PySem L2
section
variable {K : PySem.W.Frag} {Cl : Nat → Option ClsI} {F H : Hp} {ρ : Slots} {σ : St} {As : Nat → AS} {G : Gc} {Z : Zs} {sc : Scope} {so : Str → Bool} {X : Cx}
/-! ### targets -/
def tG (K : PySem.W.Frag) (Cl : Nat → Option ClsI) (pin : List Nat) (tg : Tg) : TG := fun v σ H Q => ∃ ρ F As t ρ', tg.store pin t ρ = some ρ' ∧ Good K Cl ρ σ F As H ∧ RepT K F t v ∧
  ∀ σ' As', Good K Cl ρ' σ' F As' H → (∀ b, Own As' b → Own As b) → (∀ i, i ∈ pin → σ'[i]? = σ[i]?) → (∀ own : List Nat, (∀ i ∈ tg.slots, i ∈ own) → wipe σ' own = wipe σ own) → Q σ' H
theorem wipe_set {i : Nat} {x : Option V} : ∀ {own : List Nat} {σ : St}, i ∈ own → wipe (σ.set i x) own = wipe σ own
  | j :: own, σ, h => by
    show (wipe (σ.set i x) own).set j none = (wipe σ own).set j none
    by_cases hi : i ∈ own
    · rw [wipe_set hi]
    · have e : i = j := by
        rcases List.mem_cons.mp h with e | e
        · exact e
        · exact absurd e hi
      subst e
      have : wipe (σ.set i x) own = (wipe σ own).set i x := wipe_comm hi
      rw [this, List.set_set]
where wipe_comm {i : Nat} {x : Option V} : ∀ {own : List Nat} {σ : St}, i ∉ own → wipe (σ.set i x) own = (wipe σ own).set i x
  | [], _, _ => rfl
  | j :: own, σ, h => by
    show (wipe (σ.set i x) own).set j none = ((wipe σ own).set j none).set i x
    rw [wipe_comm fun z => h (List.mem_cons_of_mem _ z), List.set_comm _ _ (fun e => h (by rw [e]; exact List.mem_cons_self))]
theorem tgt_star {tg : Tg} {e : Expr} {es : List Expr} {env : Env} (h : chkTg Z sc so tg e = true) : assignEach (e :: es) env = (false, assign e env) :: assignEach es env := by
  cases e <;> first
    | rfl
    | (cases tg <;> (unfold chkTg at h; cases h))
theorem snd_tg (hN : X.N = Z.N) (nd : Z.N.Nodup) (hsc : X.env.scope = sc) (hst : ∀ x, so x = true → L2.Loc X.env.scope x → (X.fn x = true ∨ X.env.scope.names.lookup x = some .local)) (hc : X.calm = true) (pin : List Nat) :
    ∀ {tg : Tg} {e : Expr}, chkTg Z sc so tg e = true → PG X e (tG X.K Cl pin tg)
  | .nm i, e, h => by
    cases e <;> first
      | (unfold chkTg at h; cases h; done)
      | skip
    rename_i x pos
    unfold chkTg at h
    simp only [Bool.and_eq_true, beq_iff_eq] at h
    have hl : L2.Loc X.env.scope x := by rw [hsc]; exact loc_of h.1.2
    refine (pg_name (by rw [hN]; exact nd) (by rw [hN]; exact h.1.1) hl (hst x h.2 hl)).imp fun v σ H Q q => ?_
    obtain ⟨ρ, F, As, t, ρ', e, g, r, k⟩ := q
    have e : (if i < ρ.length ∧ i ∉ pin then some (ρ.set i (some (mt t))) else none) = some ρ' := e
    split at e
    · rename_i hi
      cases e
      have g' := g.store (i := i) (m := mt t) (v := v) (A := non) hi.1 ⟨fun _ h => h, r⟩ (fun _ _ _ h => h.elim)
      refine k _ _ g' (fun b hb => (own_upd b hb).elim id fun z => z.elim) (fun j hj => List.getElem?_set_ne fun z => hi.2 (by rw [z]; exact hj)) fun own ho => wipe_set (ho i (by simp [Tg.slots]))
    · cases e
  | .t2 a b, e, h => by
    cases e <;> first
      | (unfold chkTg at h; cases h; done)
      | skip
    rename_i elts kk pos
    match elts, h with
    | [], h => unfold chkTg at h; cases h
    | [_], h => unfold chkTg at h; cases h
    | [x, y], h =>
      unfold chkTg at h
      rw [Bool.and_eq_true] at h
      have pa := snd_tg hN nd hsc hst hc pin h.1
      have pb := snd_tg hN nd hsc hst hc pin h.2
      have s1 := tgt_star (es := [y]) (env := X.env) h.1
      have s2 := tgt_star (es := []) (env := X.env) h.2
      have gs := pgs_cons pa (pgs_cons pb pgs_nil (by rw [s2]; rfl)) (by rw [s1]; rfl)
      have n2 : (assignEach [x, y] X.env).length = 2 := by rw [s1, s2]; rfl
      have f2 : (assignEach [x, y] X.env).findIdx? (·.1) = none := by rw [s1, s2]; rfl
      have rd : ∀ {vs : List V} {ts : List T} {σ : St} {H : Hp} {Q : St → Hp → Prop} {ρ ρ' : Slots} {F : Hp} {As : Nat → AS} {u w : T}, ts = [u, w] → RepTs X.K F ts vs → (obd (a.store pin u ρ) fun ρ => b.store pin w ρ) = some ρ' → Good X.K Cl ρ σ F As H →
          (∀ σ' As', Good X.K Cl ρ' σ' F As' H → (∀ b, Own As' b → Own As b) → (∀ i, i ∈ pin → σ'[i]? = σ[i]?) → (∀ own : List Nat, (∀ i ∈ (Tg.t2 a b).slots, i ∈ own) → wipe σ' own = wipe σ own) → Q σ' H) →
          gCons (tG X.K Cl pin a) (gCons (tG X.K Cl pin b) gNil) vs σ H Q := by
        intro vs ts σ H Q ρ ρ' F As u w hts r e g k
        subst hts
        cases r with
        | cons r1 r2 => cases r2 with
          | cons r2 r3 =>
            cases r3
            obtain ⟨ρ1, e1, e⟩ := obd_some e
            refine ⟨_, _, rfl, ρ, F, As, u, ρ1, e1, g, r1, fun σ1 As1 g1 o1 p1 w1 => ⟨_, _, rfl, ρ1, F, As1, w, ρ', e, g1, r2, fun σ2 As2 g2 o2 p2 w2 => ⟨rfl, ?_⟩⟩⟩
            exact k σ2 As2 g2 (fun b h => o1 b (o2 b h)) (fun i hi => (p2 i hi).trans (p1 i hi)) fun own ho => (w2 own fun i hi => ho i (by simp [Tg.slots, hi])).trans (w1 own fun i hi => ho i (by simp [Tg.slots, hi]))
      refine ⟨fun pins s σ H v u Q I rv q => ?_⟩
      obtain ⟨ρ, F, As, t, ρ', e, g, r, k⟩ := q
      obtain ⟨x0, y0, ht, e⟩ := store2 e
      rcases ht with rfl | rfl
      · cases r with
        | tup hq hz r =>
          exact (pg_tup hc gs n2 f2).run pins s σ H _ u Q I rv ⟨_, _, rfl, sqT_mono g.same hq, r.length.symm, rd rfl r e g k⟩
      · cases r with
        | lst hq hz r =>
          exact (pg_unl hc gs n2 f2).run pins s σ H _ u Q I rv ⟨_, _, rfl, SqL.of (g.same _ _ hq), r.length.symm, rd rfl r e g k⟩
    | _ :: _ :: _ :: _, h => unfold chkTg at h; cases h
  | .t3 a b c, e, h => by
    cases e <;> first
      | (unfold chkTg at h; cases h; done)
      | skip
    rename_i elts kk pos
    match elts, h with
    | [], h => unfold chkTg at h; cases h
    | [_], h => unfold chkTg at h; cases h
    | [_, _], h => unfold chkTg at h; cases h
    | [x, y, z], h =>
      unfold chkTg at h
      rw [Bool.and_eq_true, Bool.and_eq_true] at h
      have pa := snd_tg hN nd hsc hst hc pin h.1.1
      have pb := snd_tg hN nd hsc hst hc pin h.1.2
      have pc := snd_tg hN nd hsc hst hc pin h.2
      have s1 := tgt_star (es := [y, z]) (env := X.env) h.1.1
      have s2 := tgt_star (es := [z]) (env := X.env) h.1.2
      have s3 := tgt_star (es := []) (env := X.env) h.2
      have gs := pgs_cons pa (pgs_cons pb (pgs_cons pc pgs_nil (by rw [s3]; rfl)) (by rw [s2]; rfl)) (by rw [s1]; rfl)
      have n2 : (assignEach [x, y, z] X.env).length = 3 := by rw [s1, s2, s3]; rfl
      have f2 : (assignEach [x, y, z] X.env).findIdx? (·.1) = none := by rw [s1, s2, s3]; rfl
      have rd : ∀ {vs : List V} {ts : List T} {σ : St} {H : Hp} {Q : St → Hp → Prop} {ρ ρ' : Slots} {F : Hp} {As : Nat → AS} {u w d : T}, ts = [u, w, d] → RepTs X.K F ts vs → (obd (a.store pin u ρ) fun ρ => obd (b.store pin w ρ) fun ρ => c.store pin d ρ) = some ρ' → Good X.K Cl ρ σ F As H →
          (∀ σ' As', Good X.K Cl ρ' σ' F As' H → (∀ b, Own As' b → Own As b) → (∀ i, i ∈ pin → σ'[i]? = σ[i]?) → (∀ own : List Nat, (∀ i ∈ (Tg.t3 a b c).slots, i ∈ own) → wipe σ' own = wipe σ own) → Q σ' H) →
          gCons (tG X.K Cl pin a) (gCons (tG X.K Cl pin b) (gCons (tG X.K Cl pin c) gNil)) vs σ H Q := by
        intro vs ts σ H Q ρ ρ' F As u w d hts r e g k
        subst hts
        cases r with
        | cons r1 r2 => cases r2 with
          | cons r2 r3 => cases r3 with
            | cons r3 r4 =>
              cases r4
              obtain ⟨ρ1, e1, e⟩ := obd_some e
              obtain ⟨ρ2, e2, e⟩ := obd_some e
              refine ⟨_, _, rfl, ρ, F, As, u, ρ1, e1, g, r1, fun σ1 As1 g1 o1 p1 w1 => ⟨_, _, rfl, ρ1, F, As1, w, ρ2, e2, g1, r2, fun σ2 As2 g2 o2 p2 w2 => ⟨_, _, rfl, ρ2, F, As2, d, ρ', e, g2, r3, fun σ3 As3 g3 o3 p3 w3 => ⟨rfl, ?_⟩⟩⟩⟩
              exact k σ3 As3 g3 (fun b h => o1 b (o2 b (o3 b h))) (fun i hi => ((p3 i hi).trans (p2 i hi)).trans (p1 i hi)) fun own ho => ((w3 own fun i hi => ho i (by simp [Tg.slots, hi])).trans (w2 own fun i hi => ho i (by simp [Tg.slots, hi]))).trans (w1 own fun i hi => ho i (by simp [Tg.slots, hi]))
      refine ⟨fun pins s σ H v u Q I rv q => ?_⟩
      obtain ⟨ρ, F, As, t, ρ', e, g, r, k⟩ := q
      obtain ⟨x0, y0, z0, ht, e⟩ := store3 e
      rcases ht with rfl | rfl
      · cases r with
        | tup hq hz r =>
          exact (pg_tup hc gs n2 f2).run pins s σ H _ u Q I rv ⟨_, _, rfl, sqT_mono g.same hq, r.length.symm, rd rfl r e g k⟩
      · cases r with
        | lst hq hz r =>
          exact (pg_unl hc gs n2 f2).run pins s σ H _ u Q I rv ⟨_, _, rfl, SqL.of (g.same _ _ hq), r.length.symm, rd rfl r e g k⟩
    | _ :: _ :: _ :: _ :: _, h => unfold chkTg at h; cases h
  | .t4 a b c d, e, h => by
    cases e <;> first
      | (unfold chkTg at h; cases h; done)
      | skip
    rename_i elts kk pos
    match elts, h with
    | [], h => unfold chkTg at h; cases h
    | [_], h => unfold chkTg at h; cases h
    | [_, _], h => unfold chkTg at h; cases h
    | [_, _, _], h => unfold chkTg at h; cases h
    | [x, y, z, z2], h =>
      unfold chkTg at h
      rw [Bool.and_eq_true, Bool.and_eq_true, Bool.and_eq_true] at h
      have pa := snd_tg hN nd hsc hst hc pin h.1.1.1
      have pb := snd_tg hN nd hsc hst hc pin h.1.1.2
      have pc := snd_tg hN nd hsc hst hc pin h.1.2
      have pd := snd_tg hN nd hsc hst hc pin h.2
      have s1 := tgt_star (es := [y, z, z2]) (env := X.env) h.1.1.1
      have s2 := tgt_star (es := [z, z2]) (env := X.env) h.1.1.2
      have s3 := tgt_star (es := [z2]) (env := X.env) h.1.2
      have s4 := tgt_star (es := []) (env := X.env) h.2
      have gs := pgs_cons pa (pgs_cons pb (pgs_cons pc (pgs_cons pd pgs_nil (by rw [s4]; rfl)) (by rw [s3]; rfl)) (by rw [s2]; rfl)) (by rw [s1]; rfl)
      have n2 : (assignEach [x, y, z, z2] X.env).length = 4 := by rw [s1, s2, s3, s4]; rfl
      have f2 : (assignEach [x, y, z, z2] X.env).findIdx? (·.1) = none := by rw [s1, s2, s3, s4]; rfl
      have rd : ∀ {vs : List V} {ts : List T} {σ : St} {H : Hp} {Q : St → Hp → Prop} {ρ ρ' : Slots} {F : Hp} {As : Nat → AS} {u w v2 v3 : T}, ts = [u, w, v2, v3] → RepTs X.K F ts vs → (obd (a.store pin u ρ) fun ρ => obd (b.store pin w ρ) fun ρ => obd (c.store pin v2 ρ) fun ρ => d.store pin v3 ρ) = some ρ' → Good X.K Cl ρ σ F As H →
          (∀ σ' As', Good X.K Cl ρ' σ' F As' H → (∀ b, Own As' b → Own As b) → (∀ i, i ∈ pin → σ'[i]? = σ[i]?) → (∀ own : List Nat, (∀ i ∈ (Tg.t4 a b c d).slots, i ∈ own) → wipe σ' own = wipe σ own) → Q σ' H) →
          gCons (tG X.K Cl pin a) (gCons (tG X.K Cl pin b) (gCons (tG X.K Cl pin c) (gCons (tG X.K Cl pin d) gNil))) vs σ H Q := by
        intro vs ts σ H Q ρ ρ' F As u w v2 v3 hts r e g k
        subst hts
        cases r with
        | cons r1 r2 => cases r2 with
          | cons r2 r3 => cases r3 with
            | cons r3 r4 => cases r4 with
              | cons r4 r5 =>
                cases r5
                obtain ⟨ρ1, e1, e⟩ := obd_some e
                obtain ⟨ρ2, e2, e⟩ := obd_some e
                obtain ⟨ρ3, e3, e⟩ := obd_some e
                refine ⟨_, _, rfl, ρ, F, As, u, ρ1, e1, g, r1, fun σ1 As1 g1 o1 p1 w1 => ⟨_, _, rfl, ρ1, F, As1, w, ρ2, e2, g1, r2, fun σ2 As2 g2 o2 p2 w2 => ⟨_, _, rfl, ρ2, F, As2, v2, ρ3, e3, g2, r3, fun σ3 As3 g3 o3 p3 w3 => ⟨_, _, rfl, ρ3, F, As3, v3, ρ', e, g3, r4, fun σ4 As4 g4 o4 p4 w4 => ⟨rfl, ?_⟩⟩⟩⟩⟩
                exact k σ4 As4 g4 (fun b h => o1 b (o2 b (o3 b (o4 b h)))) (fun i hi => (((p4 i hi).trans (p3 i hi)).trans (p2 i hi)).trans (p1 i hi)) fun own ho => (((w4 own fun i hi => ho i (by simp [Tg.slots, hi])).trans (w3 own fun i hi => ho i (by simp [Tg.slots, hi]))).trans (w2 own fun i hi => ho i (by simp [Tg.slots, hi]))).trans (w1 own fun i hi => ho i (by simp [Tg.slots, hi]))
      refine ⟨fun pins s σ H v u Q I rv q => ?_⟩
      obtain ⟨ρ, F, As, t, ρ', e, g, r, k⟩ := q
      obtain ⟨x0, y0, z0, w0, ht, e⟩ := store4 e
      rcases ht with rfl | rfl
      · cases r with
        | tup hq hz r =>
          exact (pg_tup hc gs n2 f2).run pins s σ H _ u Q I rv ⟨_, _, rfl, sqT_mono g.same hq, r.length.symm, rd rfl r e g k⟩
      · cases r with
        | lst hq hz r =>
          exact (pg_unl hc gs n2 f2).run pins s σ H _ u Q I rv ⟨_, _, rfl, SqL.of (g.same _ _ hq), r.length.symm, rd rfl r e g k⟩
    | _ :: _ :: _ :: _ :: _ :: _, h => unfold chkTg at h; cases h

/-! ### what is walked -/
/-- what a turn gives: the i-th of xs, as it lies, or in a new pair -/
def Gives (K : PySem.W.Frag) (F : Hp) (xs : List T) (i : Nat) (H : Hp) (v : V) (H' : Hp) : Prop := ∃ t, xs[i]? = some t ∧ ((H' = H ∧ RepT K F t v) ∨
  ∃ (p : Addr) (vs : List V) (ts : List T), v = .ref p ∧ t = .tup ts ∧ H p = none ∧ H' = upd H p (.tup vs) ∧ vs.length ≤ sizeLine ∧ RepTs K F ts vs)
def ItOk (K : PySem.W.Frag) (F : Hp) (J : It) (xs : List T) : Prop := ∃ (Gd : Hp → Prop) (Y : Nat → Hp → V → Hp → Prop), Walk J xs.length Gd Y ∧ (∀ H, Same F H → Gd H) ∧ ∀ i H v H', i < xs.length → Y i H v H' → Gives K F xs i H v H'
def tI (K : PySem.W.Frag) (Cl : Nat → Option ClsI) (f : Slots → Option (List T × Slots)) : TI := fun σ H R => ∃ ρ F As xs ρ', f ρ = some (xs, ρ') ∧ Good K Cl ρ σ F As H ∧
  ∀ J F' As' H', Step false F (Own As) H F' (Own As') H' → Good K Cl ρ' σ F' As' H' → ItOk K F' J xs → xs.length ≤ sizeLine → R J H'
/-- a list or a tuple -/
def iSeq (K : PySem.W.Frag) (tl : TE) : TI := fun σ H R => tl σ H fun x H1 => (∃ a, x = .ref a ∧ (((∃ xs, SqL K H1 a xs) ∧ R (Itl K a) H1) ∨ ((∃ xs, SqT K H1 a xs) ∧ R (Itt K a) H1))) ∨ (∃ z, x = .str z ∧ R (L2.Its z) H1)
theorem pi_seqA {tg l : Expr} {tl : TE} (hl : PE X l tl) : PI X tg l (iSeq X.K tl) := by
  refine ⟨fun pins s σ H R I h => ?_⟩
  refine thn (hl.run pins s σ H _ I h) fun v s1 ⟨x, H1, I1, r1, q1⟩ => ?_
  rcases q1 with q1 | ⟨z, e, q⟩
  case inr =>
    subst e
    obtain ⟨t, rfl⟩ := r1
    cases ha : z.cps.all (· < 128)
    · exact wpAny_pyIter_wide ha (pi_one (tk := s1.toks) I1 _ (turn_str _ z t "str_iterator" (.inr rfl)) ⟨_, Heap.get?_push_size _ rfl, rfl, rfl⟩ q)
    · exact wpAny_pyIter_ascii ha (pi_one (tk := s1.toks) I1 _ (turn_str _ z t "str_ascii_iterator" (.inl rfl)) ⟨_, Heap.get?_push_size _ rfl, rfl, rfl⟩ q)
  obtain ⟨a, e, q1⟩ := q1
  subst e
  cases r1
  rcases q1 with ⟨⟨xs, hq⟩, q⟩ | ⟨⟨xs, hq⟩, q⟩
  · obtain ⟨its, rv, p, hz⟩ := I1.list hq
    refine wpAny_pyIter_list p.isList ?_
    refine ⟨s1.heap.objs.size, [s1.heap.objs.size], _, _, H1, rfl, I1.kept (t' := s1.toks) fun b o e => Heap.get?_push_of_some _ e, turn_list a _, ⟨_, Heap.get?_push_size _ rfl, rfl, rfl⟩, fun b hb => ?_, q⟩
    have e : b = s1.heap.objs.size := by simpa using hb
    subst e
    exact I1.fpOk (Nat.le_refl _) (I1.hok.fresh (Nat.le_refl _))
  · obtain ⟨its, rv, p, hz⟩ := I1.tuple hq
    refine PySem.wpAny_pyIter_tuple (show s1.heap.IsTuple a its.toArray from p) ?_
    refine ⟨s1.heap.objs.size, [s1.heap.objs.size], _, _, H1, rfl, I1.kept (t' := s1.toks) fun b o e => Heap.get?_push_of_some _ e, turn_tuple a _, ⟨_, Heap.get?_push_size _ rfl, rfl, rfl⟩, fun b hb => ?_, q⟩
    have e : b = s1.heap.objs.size := by simpa using hb
    subst e
    exact I1.fpOk (Nat.le_refl _) (I1.hok.fresh (Nat.le_refl _))
theorem it_list {a : Addr} {vs : List V} {ts : List T} (h : SqL K F a vs) (r : RepTs K F ts vs) : ItOk K F (Itl K a) ts :=
  ⟨_, _, by rw [r.length]; exact walk_list (xs := vs), fun H s => s.seq h, fun i H v H' hi y => by
    obtain ⟨rfl, e⟩ := y
    obtain ⟨t, h1, h2⟩ := r.getV e
    exact ⟨t, h1, .inl ⟨rfl, h2⟩⟩⟩
theorem it_tup {a : Addr} {vs : List V} {ts : List T} (h : SqT K F a vs) (r : RepTs K F ts vs) : ItOk K F (Itt K a) ts :=
  ⟨_, _, by rw [r.length]; exact walk_tup (xs := vs), fun H s => sqT_mono s h, fun i H v H' hi y => by
    obtain ⟨rfl, e⟩ := y
    obtain ⟨t, h1, h2⟩ := r.getV e
    exact ⟨t, h1, .inl ⟨rfl, h2⟩⟩⟩
theorem chars_len (z : Str) : (chars z).length = z.cps.size := by unfold chars; rw [List.length_map, Array.length_toList]
theorem it_str (z : Str) : ItOk K F (L2.Its z) (chars z) :=
  ⟨_, _, by rw [chars_len]; exact walk_str, fun H s => trivial, fun i H v H' hi y => by
    obtain ⟨rfl, c, e, rfl⟩ := y
    exact ⟨.str ⟨#[c]⟩, by unfold chars; rw [List.getElem?_map, Array.getElem?_toList, e]; rfl, .inl ⟨rfl, .str _⟩⟩⟩
theorem snd_seq {tg x : Expr} {e : E} (h : PE X x (tE X.K Cl e.vs (ev G e))) : PI X tg x (tI X.K Cl (evI G (.seq e))) := (pi_seqA h.keptN).imp fun σ H R q => by
  obtain ⟨ρ, F, As, xs, ρ', e, g, k⟩ := q
  unfold evI at e
  obtain ⟨t, ρ1, e1, e⟩ := bnd_some e
  obtain ⟨ys, e2, e⟩ := obd_some e
  cases e
  refine ⟨ρ, F, As, t, ρ', e1, g, fun v F1 As1 H1 st1 g1 r1 => ?_⟩
  unfold seqOf at e2
  split at e2
  · cases e2
    cases r1 with
    | lst h z r => exact .inl ⟨_, rfl, .inl ⟨⟨_, SqL.of (g1.same _ _ h)⟩, k _ F1 As1 H1 st1 g1 (it_list (SqL.of h) r) (by rw [r.length]; exact z)⟩⟩
  · cases e2
    cases r1 with
    | tup h z r => exact .inl ⟨_, rfl, .inr ⟨⟨_, sqT_mono g1.same h⟩, k _ F1 As1 H1 st1 g1 (it_tup h r) (by rw [r.length]; exact z)⟩⟩
  · cases e2
    cases r1 with
    | rd h z => exact .inl ⟨_, rfl, .inl ⟨⟨_, g1.same.seq h⟩, k _ F1 As1 H1 st1 g1 (it_list h (RepTs.ints _)) (by rw [List.length_map]; exact z)⟩⟩
  · split at e2
    · rename_i hz
      cases e2
      cases r1 with
      | str => exact .inr ⟨_, rfl, k _ F1 As1 H1 st1 g1 (it_str _) (by rw [chars_len]; exact hz)⟩
    · cases e2
  · cases e2
theorem it_range {lo hi : Int} {xs : List T} (h : rangeT lo hi = some xs) : ItOk K F (Itr lo (hi - lo).toNat) xs ∧ xs.length ≤ sizeLine ∧ -(2 ^ 62) ≤ lo ∧ lo < 2 ^ 62 ∧ -(2 ^ 62) ≤ hi ∧ hi < 2 ^ 62 := by
  unfold rangeT at h
  split at h
  · rename_i hh
    cases h
    refine ⟨⟨_, _, by rw [List.length_map, List.length_range]; exact walk_range (lo := lo), fun _ _ => trivial, fun i H v H' hi y => ?_⟩, by rw [List.length_map, List.length_range]; omega, hh.1, hh.2.1, hh.2.2.1, hh.2.2.2.1⟩
    obtain ⟨rfl, rfl⟩ := y
    rw [List.length_map, List.length_range] at hi
    exact ⟨_, by rw [List.getElem?_map, List.getElem?_range hi]; rfl, .inl ⟨rfl, .int _⟩⟩
  · cases h
theorem int_of {t : T} {n : Int} (h : intOf t = some n) : t = .int n := by
  unfold intOf at h
  split at h
  · cases h; rfl
  · cases h
theorem snd_range1 (ok : Ok Z G Cl sc so X) {tg x : Expr} {a : E} {f : Str} {p pos : Pos} (hf : f = "range") (hg : glB sc f = true) (hx : Z.bl.contains f = true) (h : PE X x (tE X.K Cl a.vs (ev G a))) (hs : starEach [x] X.env = (false, eval x X.env) :: starEach [] X.env) :
    PI X tg (.Call (.Name f p) [x] [] pos) (tI X.K Cl (evI G (.range1 a))) := by
  obtain ⟨gl, _, _⟩ := ok.gl hg
  have hm := ok.bl f (List.contains_iff_mem.mp hx)
  subst hf
  refine (pi_range1 gl hm (pa_cons h.keptN pa_nil hs) hs).imp fun σ H R q => ?_
  obtain ⟨ρ, F, As, xs, ρ', e, g, k⟩ := q
  unfold evI at e
  obtain ⟨t, ρ1, e1, e⟩ := bnd_some e
  obtain ⟨n, e2, e⟩ := obd_some e
  obtain ⟨ys, e3, e⟩ := obd_some e
  cases e
  refine ⟨ρ, F, As, t, ρ', e1, g, fun v F1 As1 H1 st1 g1 r1 => ?_⟩
  cases int_of e2
  cases r1
  obtain ⟨h1, h2, _, _, h3, h4⟩ := it_range (K := X.K) (F := F1) e3
  rw [Int.sub_zero] at h1
  exact ⟨n, rfl, h3, h4, k _ F1 As1 H1 st1 g1 h1 h2⟩
theorem snd_range2 (ok : Ok Z G Cl sc so X) {tg x y : Expr} {a b : E} {f : Str} {p pos : Pos} (hf : f = "range") (hg : glB sc f = true) (hx : Z.bl.contains f = true) (ha : PE X x (tE X.K Cl a.vs (ev G a))) (hb : PE X y (tE X.K Cl b.vs (ev G b)))
    (hs : ∀ es, starEach (x :: es) X.env = (false, eval x X.env) :: starEach es X.env) (hs2 : starEach [y] X.env = (false, eval y X.env) :: starEach [] X.env) :
    PI X tg (.Call (.Name f p) [x, y] [] pos) (tI X.K Cl (evI G (.range2 a b))) := by
  obtain ⟨gl, _, _⟩ := ok.gl hg
  have hm := ok.bl f (List.contains_iff_mem.mp hx)
  subst hf
  refine (pi_range2 gl hm (pa_cons ha.keptN (pa_cons hb.keptN pa_nil hs2) (hs _)) (by rw [hs, hs2]; rfl) hs2).imp fun σ H R q => ?_
  obtain ⟨ρ, F, As, xs, ρ', e, g, k⟩ := q
  unfold evI at e
  obtain ⟨t, ρ1, e1, e⟩ := bnd_some e
  obtain ⟨u, ρ2, e2, e⟩ := bnd_some e
  obtain ⟨m, e3, e⟩ := obd_some e
  obtain ⟨n, e4, e⟩ := obd_some e
  obtain ⟨ys, e5, e⟩ := obd_some e
  cases e
  refine ⟨ρ, F, As, t, ρ1, e1, g, fun v F1 As1 H1 st1 g1 r1 => ⟨ρ1, F1, As1, u, ρ', e2, g1, fun v2 F2 As2 H2 st2 g2 r2 => ?_⟩⟩
  cases int_of e3
  cases int_of e4
  cases r1; cases r2
  obtain ⟨h1, h2, h3, h4, h5, h6⟩ := it_range (K := X.K) (F := F2) e5
  exact ⟨m, n, rfl, ⟨h3, h4, h5, h6⟩, k _ F2 As2 H2 ((st1.trans st2).weak fun z => by cases z) g2 h1 h2⟩
theorem enum_at : ∀ {ts : List T} {k i : Nat} {t : T}, ts[i]? = some t → (enumT k ts)[i]? = some (.tup [.int ((k + i : Nat) : Int), t])
  | [], _, _, _, h => by simp at h
  | x :: xs, k, 0, t, h => by simp at h; subst h; rfl
  | x :: xs, k, i + 1, t, h => by
    have := enum_at (k := k + 1) (i := i) (t := t) (ts := xs) (by simpa using h)
    show (enumT (k + 1) xs)[i]? = _
    rw [this, show k + 1 + i = k + (i + 1) by omega]
theorem enum_len : ∀ {ts : List T} {k : Nat}, (enumT k ts).length = ts.length
  | [], _ => rfl
  | x :: xs, k => by show (enumT (k + 1) xs).length + 1 = _; rw [enum_len]; rfl
theorem it_enum {a : Addr} {vs : List V} {ts : List T} (h : SqL K F a vs) (r : RepTs K F ts vs) : ItOk K F (Ite K a) (enumT 0 ts) :=
  ⟨_, _, by rw [enum_len, r.length]; exact walk_enum (xs := vs), fun H s => s.seq h, fun i H v H' hi y => by
    obtain ⟨p, x, z, rfl, hp, rfl, h1, h2⟩ := y
    obtain ⟨t, h3, h4⟩ := r.getV h2
    cases h1
    exact ⟨_, by have q := enum_at (k := 0) h3; rw [Nat.zero_add] at q; exact q, .inr ⟨p, _, _, rfl, rfl, hp, rfl, (by decide : 2 ≤ sizeLine), .cons (.int _) (.cons h4 .nil)⟩⟩⟩
theorem zip_at : ∀ {ts us : List T} {i : Nat} {t u : T}, ts[i]? = some t → us[i]? = some u → (zipT ts us)[i]? = some (.tup [t, u])
  | [], _, _, _, _, h, _ => by simp at h
  | _ :: _, [], _, _, _, _, h => by simp at h
  | x :: xs, y :: ys, 0, t, u, h, h' => by simp at h h'; subst h; subst h'; rfl
  | x :: xs, y :: ys, i + 1, t, u, h, h' => by
    show (zipT xs ys)[i]? = _
    exact zip_at (by simpa using h) (by simpa using h')
theorem zip_len : ∀ {ts us : List T}, (zipT ts us).length = min ts.length us.length
  | [], us => by simp [zipT]
  | _ :: _, [] => by simp [zipT]
  | x :: xs, y :: ys => by show (zipT xs ys).length + 1 = _; rw [zip_len]; simp
theorem walk_zipT {a b : Addr} {xs ys : List V} {n : Nat} (hn : n = min xs.length ys.length) : Walk (RZ.ItzT K a b) n (fun H => SqT K H a xs ∧ SqT K H b ys) (YPair (fun i => xs[i]?) (fun i => ys[i]?)) := by
  subst hn
  refine ⟨fun i _ hi q => ?_, fun _ q => ⟨xs, ys, q.1, q.2, by omega⟩, fun i H v H' _ q y => ?_⟩
  · have h1 : i < xs.length := by omega
    have h2 : i < ys.length := by omega
    exact ⟨xs, ys, xs[i], ys[i], q.1, q.2, by simp [h1], by simp [h2]⟩
  · obtain ⟨T, x, z, h1, h2, h3, h4, h5⟩ := y
    exact ⟨T, x, z, h1, h2, h3, h4 xs q.1, h5 ys q.2⟩
theorem it_pair {J : It} {Gd : Hp → Prop} {vs ws : List V} {ts us : List T} (r : RepTs K F ts vs) (r' : RepTs K F us ws) (w : Walk J (min vs.length ws.length) Gd (YPair (fun i => vs[i]?) (fun i => ws[i]?))) (hG : ∀ H, Same F H → Gd H) : ItOk K F J (zipT ts us) :=
  ⟨_, _, by rw [zip_len, r.length, r'.length]; exact w, hG, fun i H v H' hi y => by
    obtain ⟨p, x, z, rfl, hp, rfl, h1, h2⟩ := y
    obtain ⟨t, h3, h4⟩ := r.getV h1
    obtain ⟨u, h5, h6⟩ := r'.getV h2
    exact ⟨_, zip_at h3 h5, .inr ⟨p, _, _, rfl, rfl, hp, rfl, (by decide : 2 ≤ sizeLine), .cons h4 (.cons h6 .nil)⟩⟩⟩
theorem sqB_mono {b : Bool} {H H' : Hp} {a : Addr} {xs : List V} (s : Same H H') (h : SqB b K H a xs) : SqB b K H' a xs := by
  cases b with
  | true => exact s.seq h
  | false => exact sqT_mono s h
theorem rep_seq {t : T} {v : V} {xs : List T} (r : RepT K F t v) (hs : t.isS = false) (h : seqOf t = some xs) : ∃ a b vs, v = .ref a ∧ SqB b K F a vs ∧ RepTs K F xs vs ∧ vs.length ≤ sizeLine := by
  unfold seqOf at h
  split at h
  · cases h
    cases r with
    | lst h z r => exact ⟨_, true, _, rfl, SqL.of h, r, z⟩
  · cases h
    cases r with
    | tup h z r => exact ⟨_, false, _, rfl, h, r, z⟩
  · cases h
    cases r with
    | rd h z => exact ⟨_, true, _, rfl, h, RepTs.ints _, by rw [List.length_map]; exact z⟩
  · cases hs
  · cases h
theorem it_enumB {b : Bool} {a : Addr} {vs : List V} {ts : List T} (h : SqB b K F a vs) (r : RepTs K F ts vs) : ItOk K F (IteB b K a) (enumT 0 ts) :=
  ⟨_, _, by rw [enum_len, r.length]; exact walk_enumB (xs := vs), fun H s => sqB_mono s h, fun i H v H' hi y => by
    obtain ⟨p, x, z, rfl, hp, rfl, h1, h2⟩ := y
    obtain ⟨t, h3, h4⟩ := r.getV h2
    cases h1
    exact ⟨_, by have q := enum_at (k := 0) h3; rw [Nat.zero_add] at q; exact q, .inr ⟨p, _, _, rfl, rfl, hp, rfl, (by decide : 2 ≤ sizeLine), .cons (.int _) (.cons h4 .nil)⟩⟩⟩
theorem snd_enum (ok : Ok Z G Cl sc so X) {x : Expr} {a : E} {f : Str} {p pos tpos : Pos} {elts : List Expr} {kk : Nat} (hf : f = "enumerate") (hg : glB sc f = true) (hx : Z.bl.contains f = true) (h : PE X x (tE X.K Cl a.vs (ev G a)))
    (hs : starEach [x] X.env = (false, eval x X.env) :: starEach [] X.env) : PI X (.Tuple elts kk tpos) (.Call (.Name f p) [x] [] pos) (tI X.K Cl (evI G (.enum a))) := by
  obtain ⟨gl, _, _⟩ := ok.gl hg
  have hm := ok.bl f (List.contains_iff_mem.mp hx)
  subst hf
  refine (pi_enumB gl hm (pa_cons h.keptN pa_nil hs) hs).imp fun σ H R q => ?_
  obtain ⟨ρ, F, As, xs, ρ', e, g, k⟩ := q
  unfold evI at e
  obtain ⟨t, ρ1, e1, e⟩ := bnd_some e
  obtain ⟨ys, e3, e⟩ := obd_some e
  cases e
  refine ⟨ρ, F, As, t, ρ', e1, g, fun v F1 As1 H1 st1 g1 r1 => ?_⟩
  unfold enumOf at e3
  split at e3
  · cases e3
  rename_i hs1
  obtain ⟨zs, e4, e3⟩ := obd_some e3
  cases e3
  obtain ⟨a, b, vs, rfl, hq, r, z⟩ := rep_seq r1 (by simpa using hs1) e4
  exact ⟨a, b, _, rfl, sqB_mono g1.same hq, k _ F1 As1 H1 st1 g1 (it_enumB hq r) (by rw [enum_len, r.length]; exact z)⟩
theorem snd_zip (ok : Ok Z G Cl sc so X) {x y : Expr} {a b : E} {f : Str} {p pos tpos : Pos} {elts : List Expr} {kk : Nat} (hf : f = "zip") (hg : glB sc f = true) (hx : Z.bl.contains f = true) (ha : PE X x (tE X.K Cl a.vs (ev G a))) (hb : PE X y (tE X.K Cl b.vs (ev G b)))
    (hs : ∀ es, starEach (x :: es) X.env = (false, eval x X.env) :: starEach es X.env) (hs2 : starEach [y] X.env = (false, eval y X.env) :: starEach [] X.env) :
    PI X (.Tuple elts kk tpos) (.Call (.Name f p) [x, y] [] pos) (tI X.K Cl (evI G (.zip a b))) := by
  obtain ⟨gl, _, _⟩ := ok.gl hg
  have hm := ok.bl f (List.contains_iff_mem.mp hx)
  subst hf
  refine (pi_zipB gl hm (pa_cons ha.keptN (pa_cons hb.keptN pa_nil hs2) (hs _)) (hs _) (by rw [hs2]; rfl)).imp fun σ H R q => ?_
  obtain ⟨ρ, F, As, xs, ρ', e, g, k⟩ := q
  unfold evI at e
  obtain ⟨t, ρ1, e1, e⟩ := bnd_some e
  obtain ⟨u, ρ2, e2, e⟩ := bnd_some e
  obtain ⟨ys, e3, e⟩ := obd_some e
  cases e
  refine ⟨ρ, F, As, t, ρ1, e1, g, fun v F1 As1 H1 st1 g1 r1 => ⟨ρ1, F1, As1, u, ρ', e2, g1, fun v2 F2 As2 H2 st2 g2 r2 => ?_⟩⟩
  have st := (st1.trans st2).weak (q := false) fun z => by cases z
  have r1 := r1.mono st2.hf
  unfold zipOf at e3
  split at e3
  · cases e3
  rename_i hs1
  simp only [Bool.or_eq_true, not_or, Bool.not_eq_true] at hs1
  obtain ⟨zs, e4, e3⟩ := obd_some e3
  obtain ⟨ws, e5, e3⟩ := obd_some e3
  cases e3
  obtain ⟨a1, b1, vs1, rfl, hq1, q1, z1⟩ := rep_seq r1 hs1.1 e4
  obtain ⟨a2, b2, vs2, rfl, hq2, q2, z2⟩ := rep_seq r2 hs1.2 e5
  exact ⟨a1, a2, b1, b2, _, _, rfl, sqB_mono g2.same hq1, sqB_mono g2.same hq2, k _ F2 As2 H2 st g2 (it_pair q1 q2 (walk_zipB rfl) fun H s => ⟨sqB_mono s hq1, sqB_mono s hq2⟩) (by rw [zip_len, q1.length]; omega)⟩
theorem it_rangeD {lo hi k : Int} {xs : List T} (h : rangeD lo hi k = some xs) : k = -1 ∧ RgC lo hi (-1) (lo - hi).toNat ∧ ItOk K F (Itc lo (-1) (lo - hi).toNat) xs ∧ xs.length ≤ sizeLine := by
  unfold rangeD at h
  split at h
  · rename_i hh
    obtain ⟨hk, h1, h2, h3, h4, h5⟩ := hh
    cases h
    refine ⟨hk, RgC.neg h1 h2 h3 h4, ⟨_, _, by rw [List.length_map, List.length_range]; exact walk_rangeC (lo := lo) (c := -1), fun _ _ => trivial, fun i H v H' hi y => ?_⟩, by rw [List.length_map, List.length_range]; omega⟩
    obtain ⟨rfl, rfl⟩ := y
    rw [List.length_map, List.length_range] at hi
    exact ⟨_, by rw [List.getElem?_map, List.getElem?_range hi]; rfl, .inl ⟨rfl, .int _⟩⟩
  · cases h
theorem snd_range3 (ok : Ok Z G Cl sc so X) {tg x y z : Expr} {a b c : E} {f : Str} {p pos : Pos} (hf : f = "range") (hg : glB sc f = true) (hx : Z.bl.contains f = true) (ha : PE X x (tE X.K Cl a.vs (ev G a))) (hb : PE X y (tE X.K Cl b.vs (ev G b))) (hc : PE X z (tE X.K Cl c.vs (ev G c)))
    (hs : ∀ es, starEach (x :: es) X.env = (false, eval x X.env) :: starEach es X.env) (hs2 : ∀ es, starEach (y :: es) X.env = (false, eval y X.env) :: starEach es X.env) (hs3 : starEach [z] X.env = (false, eval z X.env) :: starEach [] X.env) :
    PI X tg (.Call (.Name f p) [x, y, z] [] pos) (tI X.K Cl (evI G (.range3 a b c))) := by
  obtain ⟨gl, _, _⟩ := ok.gl hg
  have hm := ok.bl f (List.contains_iff_mem.mp hx)
  subst hf
  refine (pi_range3 gl hm (pa_cons ha.keptN (pa_cons hb.keptN (pa_cons hc.keptN pa_nil hs3) (hs2 _)) (hs _)) (hs _) (by rw [hs2, hs3]; rfl)).imp fun σ H R q => ?_
  obtain ⟨ρ, F, As, xs, ρ', e, g, k⟩ := q
  unfold evI at e
  obtain ⟨t, ρ1, e1, e⟩ := bnd_some e
  obtain ⟨u, ρ2, e2, e⟩ := bnd_some e
  obtain ⟨w, ρ3, e3, e⟩ := bnd_some e
  obtain ⟨m, e4, e⟩ := obd_some e
  obtain ⟨n, e5, e⟩ := obd_some e
  obtain ⟨l, e6, e⟩ := obd_some e
  obtain ⟨ys, e7, e⟩ := obd_some e
  cases e
  refine ⟨ρ, F, As, t, ρ1, e1, g, fun v F1 As1 H1 st1 g1 r1 => ⟨ρ1, F1, As1, u, ρ2, e2, g1, fun v2 F2 As2 H2 st2 g2 r2 => ⟨ρ2, F2, As2, w, ρ', e3, g2, fun v3 F3 As3 H3 st3 g3 r3 => ?_⟩⟩⟩
  cases int_of e4
  cases int_of e5
  cases int_of e6
  cases r1; cases r2; cases r3
  obtain ⟨h1, h2, h3, h4⟩ := it_rangeD (K := X.K) (F := F3) e7
  subst h1
  exact ⟨m, n, -1, _, rfl, h2, k _ F3 As3 H3 (((st1.trans st2).trans st3).weak fun z => by cases z) g3 h3 h4⟩
theorem zip3_at : ∀ {ts us ws : List T} {i : Nat} {t u w : T}, ts[i]? = some t → us[i]? = some u → ws[i]? = some w → (zipT3 ts us ws)[i]? = some (.tup [t, u, w])
  | [], _, _, _, _, _, _, h, _, _ => by simp at h
  | _ :: _, [], _, _, _, _, _, _, h, _ => by simp at h
  | _ :: _, _ :: _, [], _, _, _, _, _, _, h => by simp at h
  | x :: xs, y :: ys, z :: zs, 0, t, u, w, h, h', h'' => by simp at h h' h''; subst h; subst h'; subst h''; rfl
  | x :: xs, y :: ys, z :: zs, i + 1, t, u, w, h, h', h'' => by
    show (zipT3 xs ys zs)[i]? = _
    exact zip3_at (by simpa using h) (by simpa using h') (by simpa using h'')
theorem zip3_len : ∀ {ts us ws : List T}, (zipT3 ts us ws).length = min ts.length (min us.length ws.length)
  | [], us, ws => by simp [zipT3]
  | _ :: _, [], ws => by simp [zipT3]
  | _ :: _, _ :: _, [] => by simp [zipT3]
  | x :: xs, y :: ys, z :: zs => by show (zipT3 xs ys zs).length + 1 = _; rw [zip3_len]; simp
theorem it_trip {J : It} {Gd : Hp → Prop} {vs ws xs : List V} {ts us ys : List T} (r : RepTs K F ts vs) (r' : RepTs K F us ws) (r'' : RepTs K F ys xs) (w : Walk J (min vs.length (min ws.length xs.length)) Gd (YTrip (fun i => vs[i]?) (fun i => ws[i]?) (fun i => xs[i]?))) (hG : ∀ H, Same F H → Gd H) : ItOk K F J (zipT3 ts us ys) :=
  ⟨_, _, by rw [zip3_len, r.length, r'.length, r''.length]; exact w, hG, fun i H v H' hi y => by
    obtain ⟨p, x, z, q, rfl, hp, rfl, h1, h2, h0⟩ := y
    obtain ⟨t, h3, h4⟩ := r.getV h1
    obtain ⟨u, h5, h6⟩ := r'.getV h2
    obtain ⟨b, h7, h8⟩ := r''.getV h0
    exact ⟨_, zip3_at h3 h5 h7, .inr ⟨p, _, _, rfl, rfl, hp, rfl, (by decide : 3 ≤ sizeLine), .cons h4 (.cons h6 (.cons h8 .nil))⟩⟩⟩
theorem snd_zip3 (ok : Ok Z G Cl sc so X) {x y z : Expr} {a b c : E} {f : Str} {p pos tpos : Pos} {elts : List Expr} {kk : Nat} (hf : f = "zip") (hg : glB sc f = true) (hx : Z.bl.contains f = true) (ha : PE X x (tE X.K Cl a.vs (ev G a))) (hb : PE X y (tE X.K Cl b.vs (ev G b))) (hc : PE X z (tE X.K Cl c.vs (ev G c)))
    (hs : ∀ es, starEach (x :: es) X.env = (false, eval x X.env) :: starEach es X.env) (hs2 : ∀ es, starEach (y :: es) X.env = (false, eval y X.env) :: starEach es X.env) (hs3 : starEach [z] X.env = (false, eval z X.env) :: starEach [] X.env) :
    PI X (.Tuple elts kk tpos) (.Call (.Name f p) [x, y, z] [] pos) (tI X.K Cl (evI G (.zip3 a b c))) := by
  obtain ⟨gl, _, _⟩ := ok.gl hg
  have hm := ok.bl f (List.contains_iff_mem.mp hx)
  subst hf
  refine (pi_zipB3 gl hm (pa_cons ha.keptN (pa_cons hb.keptN (pa_cons hc.keptN pa_nil hs3) (hs2 _)) (hs _)) (hs _) (by rw [hs2, hs3]; rfl)).imp fun σ H R q => ?_
  obtain ⟨ρ, F, As, xs, ρ', e, g, k⟩ := q
  unfold evI at e
  obtain ⟨t, ρ1, e1, e⟩ := bnd_some e
  obtain ⟨u, ρ2, e2, e⟩ := bnd_some e
  obtain ⟨w, ρ3, e3, e⟩ := bnd_some e
  obtain ⟨ys, e4, e⟩ := obd_some e
  cases e
  refine ⟨ρ, F, As, t, ρ1, e1, g, fun v F1 As1 H1 st1 g1 r1 => ⟨ρ1, F1, As1, u, ρ2, e2, g1, fun v2 F2 As2 H2 st2 g2 r2 => ⟨ρ2, F2, As2, w, ρ', e3, g2, fun v3 F3 As3 H3 st3 g3 r3 => ?_⟩⟩⟩
  have st := ((st1.trans st2).trans st3).weak (q := false) fun z => by cases z
  have r1 := r1.mono (st2.hf.trans st3.hf)
  have r2 := r2.mono st3.hf
  unfold zipOf3 at e4
  split at e4
  · cases e4
  rename_i hs1
  simp only [Bool.or_eq_true, not_or, Bool.not_eq_true] at hs1
  obtain ⟨as, e5, e4⟩ := obd_some e4
  obtain ⟨bs, e6, e4⟩ := obd_some e4
  obtain ⟨cs, e7, e4⟩ := obd_some e4
  cases e4
  obtain ⟨a1, b1, vs1, rfl, hq1, q1, z1⟩ := rep_seq r1 hs1.1.1 e5
  obtain ⟨a2, b2, vs2, rfl, hq2, q2, z2⟩ := rep_seq r2 hs1.1.2 e6
  obtain ⟨a3, b3, vs3, rfl, hq3, q3, z3⟩ := rep_seq r3 hs1.2 e7
  exact ⟨a1, a2, a3, b1, b2, b3, _, _, _, rfl, sqB_mono g3.same hq1, sqB_mono g3.same hq2, sqB_mono g3.same hq3, k _ F3 As3 H3 st g3 (it_trip q1 q2 q3 (walk_zipB3 rfl) fun H s => ⟨sqB_mono s hq1, sqB_mono s hq2, sqB_mono s hq3⟩) (by rw [zip3_len, q1.length]; omega)⟩
end
end Mk
set_option maxHeartbeats 4000000
/-! Mk: comprehensions; the sum of it for expressions. -/
namespace Mk
open PySem L2
section
variable {K : PySem.W.Frag} {Cl : Nat → Option ClsI} {F H : Hp} {ρ : Slots} {σ : St} {As : Nat → AS} {G : Gc} {Z : Zs} {sc : Scope} {so : Str → Bool} {X : Cx}
theorem wipeS_get : ∀ {own : List Nat} {ρ : Slots} {i : Nat}, (wipeS own ρ)[i]? = if i ∈ own ∧ i < ρ.length then some none else ρ[i]?
  | [], ρ, i => by simp [wipeS]
  | j :: own, ρ, i => by
    show (wipeS own (ρ.set j none))[i]? = _
    rw [wipeS_get, List.length_set]
    by_cases hi : i ∈ own ∧ i < ρ.length
    · rw [if_pos hi, if_pos ⟨List.mem_cons_of_mem _ hi.1, hi.2⟩]
    · rw [if_neg hi]
      by_cases hj : i = j
      · subst hj
        by_cases hl : i < ρ.length
        · rw [if_pos ⟨List.mem_cons_self, hl⟩, List.getElem?_set_self hl]
        · rw [if_neg fun z => hl z.2, List.getElem?_eq_none (by rw [List.length_set]; omega), List.getElem?_eq_none (by omega)]
      · rw [List.getElem?_set_ne (Ne.symm hj), if_neg fun z => hi ⟨(List.mem_cons.mp z.1).resolve_left hj, z.2⟩]
theorem wipeS_len : ∀ {own : List Nat} {ρ : Slots}, (wipeS own ρ).length = ρ.length
  | [], _ => rfl
  | j :: own, ρ => by
    show (wipeS own (ρ.set j none)).length = _
    rw [wipeS_len, List.length_set]
theorem backS_get {ρ : Slots} : ∀ {own : List Nat} {ρ' : Slots} {i : Nat}, (backS own ρ ρ')[i]? = if i ∈ own ∧ i < ρ'.length then some ((ρ[i]?).getD none) else ρ'[i]?
  | [], ρ', i => by simp [backS]
  | j :: own, ρ', i => by
    show (backS own ρ (ρ'.set j ((ρ[j]?).getD none)))[i]? = _
    rw [backS_get, List.length_set]
    by_cases hi : i ∈ own ∧ i < ρ'.length
    · rw [if_pos hi, if_pos ⟨List.mem_cons_of_mem _ hi.1, hi.2⟩]
    · rw [if_neg hi]
      by_cases hj : i = j
      · subst hj
        by_cases hl : i < ρ'.length
        · rw [if_pos ⟨List.mem_cons_self, hl⟩, List.getElem?_set_self hl]
        · rw [if_neg fun z => hl z.2, List.getElem?_eq_none (by rw [List.length_set]; omega), List.getElem?_eq_none (by omega)]
      · rw [List.getElem?_set_ne (Ne.symm hj), if_neg fun z => hi ⟨(List.mem_cons.mp z.1).resolve_left hj, z.2⟩]
theorem backS_len {ρ : Slots} : ∀ {own : List Nat} {ρ' : Slots}, (backS own ρ ρ').length = ρ'.length
  | [], _ => rfl
  | j :: own, ρ' => by
    show (backS own ρ (ρ'.set j _)).length = _
    rw [backS_len, List.length_set]
open Classical in
noncomputable def wipeA (own : List Nat) (As : Nat → AS) : Nat → AS := fun i => if i ∈ own then non else As i
theorem wipeA_le {own : List Nat} : ∀ b, Own (wipeA own As) b → Own As b := fun b ⟨i, h⟩ => by
  unfold wipeA at h
  split at h
  · exact h.elim
  · exact ⟨i, h⟩
/-- the slots own forgotten -/
theorem Good.wiped (g : Good K Cl ρ σ F As H) (own : List Nat) : Good K Cl (wipeS own ρ) (wipe σ own) F (wipeA own As) H := by
  refine ⟨g.same, fun i m e => ?_, fun i h => ?_, fun i j a hne h1 h2 => ?_, by rw [wipeS_len, wipe_length]; exact g.len⟩
  · rw [wipeS_get] at e
    split at e
    · cases e
    · rename_i hn
      obtain ⟨v, ev, r⟩ := g.rep i m e
      have ho : i ∉ own := fun z => hn ⟨z, g.lt e⟩
      refine ⟨v, by rw [wipe_out ho]; exact ev, ?_⟩
      unfold wipeA
      rw [if_neg ho]
      exact r
  · unfold wipeA
    split
    · exact fun _ h => h
    · rename_i ho
      exact g.out i fun m e => h m (by rw [wipeS_get, if_neg fun z => ho z.1]; exact e)
  · unfold wipeA at h1 h2
    split at h1
    · exact h1
    · split at h2
      · exact h2
      · exact g.dis i j a hne h1 h2
/-- what stands aside: the slots own, as they were -/
theorem Good.back {ρ0 : Slots} {σ0 : St} {F0 : Hp} {As0 : Nat → AS} {H0 : Hp} {own : List Nat} (g0 : Good K Cl ρ0 σ0 F0 As0 H0) (g : Good K Cl ρ (wipe σ0 own) F As H) {S : AS} {p : Bool}
    (st : Step p F0 (Own (wipeA own As0)) H0 F ((Own As).or S) H) : ∃ As', Good K Cl (backS own ρ0 ρ) σ0 F As' H ∧ (∀ b, Own As' b → Own As b ∨ Own As0 b) ∧ ∀ b, Own As' b → S b → Own As b := by
  have hl : ρ.length = ρ0.length := by rw [g.len, wipe_length, g0.len]
  have held : ∀ i m, i ∈ own → ρ0[i]? = some (some m) → ∃ v, σ0[i]? = some (some v) ∧ RepM K Cl F H m v (As0 i) ∧ ∀ b, As0 i b → ¬ ((Own As).or S) b := fun i m hi e => by
    obtain ⟨v, ev, r⟩ := g0.rep i m e
    obtain ⟨r', d⟩ := st.held r fun b hb ⟨j, z⟩ => by
      unfold wipeA at z
      split at z
      · exact z
      · rename_i hj
        exact g0.dis i j b (fun e => hj (by rw [← e]; exact hi)) hb z
    exact ⟨v, ev, r', d⟩
  classical
  refine ⟨fun i => if i ∈ own then As0 i else As i, ⟨g.same, fun i m e => ?_, fun i h => ?_, fun i j a hne h1 h2 => ?_, by rw [backS_len, hl, g0.len]⟩, fun b ⟨i, h⟩ => ?_, fun b ⟨i, h⟩ hS => ?_⟩
  · rw [backS_get] at e
    split at e
    · rename_i hh
      have e' : ρ0[i]? = some (some m) := by
        cases q : ρ0[i]? with
        | none => rw [q] at e; cases e
        | some x => rw [q] at e; cases e; rfl
      obtain ⟨v, ev, r, _⟩ := held i m hh.1 e'
      exact ⟨v, ev, by show RepM K Cl F H m v (if i ∈ own then As0 i else As i); rw [if_pos hh.1]; exact r⟩
    · rename_i hn
      obtain ⟨v, ev, r⟩ := g.rep i m e
      have ho : i ∉ own := fun z => hn ⟨z, g.lt e⟩
      rw [wipe_out ho] at ev
      exact ⟨v, ev, by show RepM K Cl F H m v (if i ∈ own then As0 i else As i); rw [if_neg ho]; exact r⟩
  · show ∀ a, ¬ (if i ∈ own then As0 i else As i) a
    split
    · rename_i ho
      refine g0.out i fun m e => ?_
      by_cases hi : i < ρ.length
      · exact h m (by rw [backS_get, if_pos ⟨ho, hi⟩, e]; rfl)
      · have := g0.lt e; omega
    · rename_i ho
      exact g.out i fun m e => h m (by rw [backS_get, if_neg fun z => ho z.1]; exact e)
  · have h1 : (if i ∈ own then As0 i else As i) a := h1
    have h2 : (if j ∈ own then As0 j else As j) a := h2
    have cross : ∀ {i j : Nat}, i ∈ own → As0 i a → As j a → False := fun {i j} hi ha hb => by
      by_cases hm : ∃ m, ρ0[i]? = some (some m)
      · obtain ⟨m, e⟩ := hm
        obtain ⟨_, _, _, d⟩ := held i m hi e
        exact d a ha (.inl ⟨j, hb⟩)
      · exact g0.out i (fun m q => hm ⟨m, q⟩) a ha
    split at h1
    · rename_i hi
      split at h2
      · exact g0.dis i j a hne h1 h2
      · exact cross hi h1 h2
    · split at h2
      · rename_i hj
        exact cross hj h2 h1
      · exact g.dis i j a hne h1 h2
  · have h : (if i ∈ own then As0 i else As i) b := h
    split at h
    · exact .inr ⟨i, h⟩
    · exact .inl ⟨i, h⟩
  · have h : (if i ∈ own then As0 i else As i) b := h
    split at h
    · rename_i hi
      by_cases hm : ∃ m, ρ0[i]? = some (some m)
      · obtain ⟨m, e⟩ := hm
        obtain ⟨_, _, _, d⟩ := held i m hi e
        exact absurd (.inr hS) (d b h)
      · exact absurd h (g0.out i (fun m q => hm ⟨m, q⟩) b)
    · exact ⟨i, h⟩
/-- an item has come -/
theorem Good.item {xs : List T} {i : Nat} {v : V} {H' : Hp} (g : Good K Cl ρ σ F As H) (y : Gives K F xs i H v H') : ∃ t F', xs[i]? = some t ∧ Good K Cl ρ σ F' As H' ∧ RepT K F' t v ∧ Step true F (Own As) H F' (Own As) H' := by
  obtain ⟨t, e, h | ⟨p, vs, ts, rfl, rfl, hp, rfl, hz, r⟩⟩ := y
  · obtain ⟨rfl, r⟩ := h
    exact ⟨t, F, e, g, r, Step.refl⟩
  · have st2 := new_frz (o := .tup vs) g.same hp
    have s2 : Same (upd F p (.tup vs)) (upd H p (.tup vs)) := fun b o e => by
      by_cases hb : b = p
      · rw [hb, upd_same] at e; rw [hb, upd_same]; exact e
      · rw [upd_ne hb] at e ⊢; exact g.same b o e
    obtain ⟨g2, st2', d2⟩ := g.after st2 s2
    exact ⟨_, _, e, g2, .tup (SqT.of upd_same) hz (r.mono st2.hf), st2'.less fun b h => .inl h⟩
theorem compL_cons {own : List Nat} {f : T → Slots → Option (Option T × Slots)} {xs : List T} {i : Nat} {t : T} {ρ ρ' : Slots} {ys : List T} (e : xs[i]? = some t) (h : compL own f (xs.drop i) ρ = some (ys, ρ')) :
    ∃ y ρ1 zs, f t (wipeS own ρ) = some (y, ρ1) ∧ compL own f (xs.drop (i + 1)) ρ1 = some (zs, ρ') ∧ ys = (match y with | some y => y :: zs | none => zs) := by
  have hd : xs.drop i = t :: xs.drop (i + 1) := by
    have hi := (List.getElem?_eq_some_iff.mp e)
    obtain ⟨h1, h2⟩ := hi
    rw [List.drop_eq_getElem_cons h1, h2]
  rw [hd] at h
  unfold compL at h
  obtain ⟨y, ρ1, h1, h⟩ := bnd_some h
  obtain ⟨zs, ρ2, h2, h⟩ := bnd_some h
  cases h
  exact ⟨y, ρ1, zs, h1, h2, rfl⟩
theorem wipe_in {i : Nat} : ∀ {own : List Nat} {σ : St}, i ∈ own → (wipe σ own)[i]? = if i < σ.length then some none else none
    | j :: own, σ, h => by
      show ((wipe σ own).set j none)[i]? = _
      by_cases hj : i = j
      · subst hj
        by_cases hl : i < σ.length
        · rw [List.getElem?_set_self (by rw [wipe_length]; exact hl), if_pos hl]
        · rw [List.getElem?_eq_none (by rw [List.length_set, wipe_length]; omega), if_neg hl]
      · rw [List.getElem?_set_ne (Ne.symm hj)]
        exact wipe_in ((List.mem_cons.mp h).resolve_left hj)
theorem wipe_idem {own : List Nat} {σ : St} : wipe (wipe σ own) own = wipe σ own := by
    apply List.ext_getElem?
    intro i
    by_cases hi : i ∈ own
    · have a : ∀ τ : St, (wipe τ own)[i]? = if i < τ.length then some none else none := fun τ => wipe_in hi
      rw [a, a, wipe_length]
    · rw [wipe_out hi]
theorem snd_comp {own : List Nat} {tg : Tg} {it : I} {cs : Cs} {elt : E} {e t i : Expr} {ifs : List Expr} {scope : Scope} {ow : List (Str × Nat)} {pos : Pos} (hc : X.calm = true) (hN : X.N.Nodup) (how : ow.map (·.2) = own)
    (hi : PI X t i (tI X.K Cl (evI G it))) (okb : BlkOk X.N X.env.scope scope ow) (htg : ∀ j ∈ tg.slots, j ∈ own)
    (hg : ∀ (s : Shared) (H : Hp) (C : Addr) (cl : List (Str × Addr)) (fp : List Addr), PG (X.blk s H scope (compEnvC scope cl C X.env) fp) t (tG X.K Cl G.pin tg))
    (ht : ∀ (s : Shared) (H : Hp) (C : Addr) (cl : List (Str × Addr)) (fp : List Addr), PTs (X.blk s H scope (compEnvC scope cl C X.env) fp) ifs (tCd X.K Cl (evCs G cs)))
    (he : ∀ (s : Shared) (H : Hp) (C : Addr) (cl : List (Str × Addr)) (fp : List Addr), PE (X.blk s H scope (compEnvC scope cl C X.env) fp) e (tE X.K Cl elt.vs (ev G elt)))
    (hs : ∀ x, foldedSetIterable i X.env x = pure x) :
    (PE X (.ListComp e [⟨t, i, ifs, 0⟩] scope pos) (tE X.K Cl false (ev G (.comp own tg it cs elt)))) ∧
    (∀ {k : Nat} {y : Str} {py spos : Pos}, X.N[k]? = some y → X.env.scope.names.lookup y = some .local → swapsWith (.ListComp e [⟨t, i, ifs, 0⟩] scope pos) (some (.Name y py)) spos.line X.env = pure true →
      PS X (.Assign [.Name y py] (.ListComp e [⟨t, i, ifs, 0⟩] scope pos) spos) (tAsg (tE X.K Cl false (ev G (.comp own tg it cs elt))) (gName k))) := by
  have key : ∀ (σ : St) (H : Hp) (Q : VK), tE X.K Cl false (ev G (.comp own tg it cs elt)) σ H Q →
      tLc (tI X.K Cl (evI G it)) (tG X.K Cl G.pin tg) (tCd X.K Cl (evCs G cs)) (tF X.K Cl false fun ρ => f1 (ev G elt ρ)) (ow.map (·.2)) σ H Q := by
    intro σ H Q q
    rw [how]
    obtain ⟨ρ, F, As, m, ρ', e1, g, k⟩ := q
    unfold ev at e1
    obtain ⟨xs, ρ0, e2, e1⟩ := bnd_some e1
    obtain ⟨ys, ρ1, e3, e1⟩ := bnd_some e1
    cases e1
    refine ⟨ρ, F, As, xs, ρ0, e2, g, fun J F1 As1 H1 st1 g1 it1 hz D hD => ?_⟩
    obtain ⟨Gd, Y, wk, hG, hY⟩ := it1
    -- between the turns: the run's rest, the list so far at D
    refine lc_it wk (fun n H' => ∃ ρn Fn An done rest, compL own (fun x ρ => obd (tg.store G.pin x ρ) fun ρ => bnd (evCs G cs ρ) fun k ρ => if k = true then bnd (f1 (ev G elt ρ)) fun t ρ => some (some t, ρ) else some (none, ρ)) (xs.drop n) ρn = some (rest, ρ1) ∧
        ys = done ++ rest ∧ done.length ≤ n ∧ (∃ vs, H' D = some (.lst vs) ∧ RepTs X.K Fn done vs) ∧ Fn D = none ∧ (∀ j, ¬ An j D) ∧ Good X.K Cl (wipeS own ρn) (wipe σ own) Fn An H' ∧
        Step false F1 (Own (wipeA own As1)) H1 Fn ((Own An).or fun b => b = D) H') ?_ (fun n H' _ ⟨_, _, _, _, _, _, _, _, _, _, _, gg, stt⟩ => hG H' (stt.hf.trans gg.same)) ?_ ?_
    · -- the start
      have gw := g1.wiped own
      obtain ⟨g2, st2, d2⟩ := gw.after (new_own (o := .lst []) g1.same hD) (g1.same.trans (Same.push hD))
      exact ⟨ρ0, F1, _, [], ys, by rw [List.drop_zero]; exact e3, rfl, Nat.le_refl _, ⟨[], upd_same, .nil⟩, g1.same.free hD, fun j hj => d2 D rfl ⟨j, hj⟩, g2, st2.weak fun z => by cases z⟩
    · -- a turn
      rintro n x H2 H3 hn ⟨ρn, Fn, An, done, rest, c1, c2, c3, ⟨vs, hDv, rv⟩, c5, c6, gg, stt⟩ y
      have gv := hY n H2 x H3 hn y
      have gv' : Gives X.K Fn xs n H2 x H3 := by
        obtain ⟨t, h1, h | ⟨p, vs, ts, h2, h3, h4, h5, h6, h7⟩⟩ := gv
        · exact ⟨t, h1, .inl ⟨h.1, h.2.mono stt.hf⟩⟩
        · exact ⟨t, h1, .inr ⟨p, vs, ts, h2, h3, h4, h5, h6, h7.mono stt.hf⟩⟩
      obtain ⟨t0, F3, hx, g3, r3, st3⟩ := gg.item gv'
      obtain ⟨y0, ρa, zs, h1, h2, h3⟩ := compL_cons hx c1
      obtain ⟨ρb, h4, h1⟩ := obd_some h1
      obtain ⟨kk, ρc, h5, h1⟩ := bnd_some h1
      -- D stands aside
      have heldD : RepM X.K Cl Fn H2 (.bx (.ls done)) (.ref D) (fun b => b = D) := ⟨D, vs, rfl, fun _ => Iff.rfl, c5, hDv, by
        have := rv.length; omega, rv⟩
      refine ⟨_, F3, An, t0, ρb, h4, g3, r3, fun σ4 A4 g4 o4 p4 w4 => ⟨?_, ?_⟩⟩
      · rw [w4 own htg]
        exact wipe_idem
      · refine ⟨ρb, F3, A4, kk, ρc, h5, g4, fun F5 A5 H5 st5 g5 => ?_⟩
        have st35 : Step false Fn (Own An) H2 F5 (Own A5) H5 := ((st3.trans (st5.more o4)).weak fun z => by cases z)
        obtain ⟨hD5, nD5⟩ := st35.held heldD fun b hb ⟨j, hj⟩ => by rw [hb] at hj; exact c6 j hj
        cases kk with
        | false =>
          rw [if_neg Bool.false_ne_true] at h1
          cases h1
          refine iteF ⟨ρa, F5, wipeA own A5, done, zs, h2, by rw [c2, h3], by omega, ?_, ?_, fun j hj => nD5 D rfl (wipeA_le D ⟨j, hj⟩), ?_, ?_⟩
          · obtain ⟨a, ws, ea, _, _, hh, _, rr⟩ := (show RepB X.K F5 H5 (.ls done) (.ref D) _ from hD5)
            cases ea
            exact ⟨ws, hh, rr⟩
          · exact (hD5.own D rfl).1
          · have := g5.wiped own
            rw [w4 own htg] at this
            rw [wipe_idem] at this
            exact this
          · refine ((stt.trans st35.with).less fun b h => ?_).weak fun z => by cases z
            exact h.imp (wipeA_le b) id
        | true =>
          rw [if_pos rfl] at h1
          obtain ⟨te, ρd, h6, h1⟩ := bnd_some h1
          cases h1
          refine iteT ⟨ρc, F5, A5, te, ρa, h6, g5, fun v6 F6 A6 H6 st6 g6 r6 => ?_⟩
          have st36 := (st35.trans st6).weak (q := false) fun z => by cases z
          obtain ⟨hD6, nD6⟩ := st36.held heldD fun b hb ⟨j, hj⟩ => by rw [hb] at hj; exact c6 j hj
          obtain ⟨a, ws, ea, _, fD, hh, hzw, rr⟩ := (show RepB X.K F6 H6 (.ls done) (.ref D) _ from hD6)
          cases ea
          have hdl : done.length < sizeLine := by omega
          refine ⟨ws, hh, by rw [← rr.length]; exact hdl, ρa, F6, wipeA own A6, done ++ [te], zs, h2, by rw [c2, h3]; simp, by simp; omega, ⟨ws ++ [v6], upd_same, rr.append (.cons r6 .nil)⟩, fD, fun j hj => nD6 D rfl (wipeA_le D ⟨j, hj⟩), ?_, ?_⟩
          · have gw := g6.wiped own
            rw [w4 own htg, wipe_idem] at gw
            refine ⟨fun b o e => ?_, fun j m e => ?_, gw.out, gw.dis, gw.len⟩
            · rw [upd_ne fun z => by rw [z, fD] at e; cases e]; exact gw.same b o e
            · obtain ⟨v, ev, r⟩ := gw.rep j m e
              refine ⟨v, ev, r.mono (Same.refl _) (fun b hb => (r.own b hb).1) fun b o hb e => ?_⟩
              rw [upd_ne fun z => by rw [z] at hb; exact nD6 D rfl (wipeA_le D ⟨j, hb⟩)]
              exact e
          · have sw : Step false F6 ((Own A6).or fun b => b = D) H6 F6 ((Own A6).or fun b => b = D) (upd H6 D (.lst (ws ++ [v6]))) := step_write (.inr rfl) ⟨_, hh⟩
            refine (((stt.trans st36.with).trans sw).less fun b h => ?_).weak fun z => by cases z
            exact h.imp (wipeA_le b) id
    · -- the end
      rintro H2 ⟨ρn, Fn, An, done, rest, c1, c2, c3, ⟨vs, hDv, rv⟩, c5, c6, gg, stt⟩
      rw [List.drop_length] at c1
      cases c1
      rw [List.append_nil] at c2
      subst c2
      -- the slots as the turns left them, those own as they were
      have gg' : Good X.K Cl (wipeS own ρ1) (wipe σ own) Fn An H2 := gg
      obtain ⟨A', g', o1, o2⟩ := g1.back gg' stt
      have eb : backS own ρ0 (wipeS own ρ1) = backS own ρ0 ρ1 := by
        apply List.ext_getElem?
        intro j
        rw [backS_get, backS_get, wipeS_len, wipeS_get]
        by_cases hj : j ∈ own ∧ j < ρ1.length
        · rw [if_pos hj, if_pos hj]
        · rw [if_neg hj, if_neg hj, if_neg hj]
      rw [eb] at g'
      have stf : Step false F1 (Own As1) H1 Fn ((Own A').or fun b => b = D) H2 := ⟨stt.hf, fun b o e n => stt.keep b o e fun z => n (wipeA_le b z),
        fun b h => h.elim (fun z => (o1 b z).elim (fun y => (stt.own b (.inl y)).imp (wipeA_le b) id) .inl) fun z => (stt.own b (.inr z)).imp (wipeA_le b) id,
        fun b o e => (stt.frz b o e).imp id (Or.imp (wipeA_le b) id), fun z => by cases z⟩
      refine k (.ref D) Fn A' (fun b => b = D) H2 ((st1.trans stf).weak fun z => by cases z) g' ⟨D, vs, rfl, fun _ => Iff.rfl, c5, hDv, by have := rv.length; omega, rv⟩ fun b hb ha => ?_
      exact (by
          rw [hb] at ha
          obtain ⟨j, hj⟩ := o2 D ha rfl
          exact c6 j hj)
  have he' : ∀ (s : Shared) (H : Hp) (C : Addr) (cl : List (Str × Addr)) (fp : List Addr), PE (X.blk s H scope (compEnvC scope cl C X.env) fp) e (tF X.K Cl false fun ρ => f1 (ev G elt ρ)) := fun s H C cl fp => (he s H C cl fp).keptN
  refine ⟨(pe_lc hc hN hi okb hg ht he' hs).imp key, fun {k y py spos} hk hy hsw => ?_⟩
  exact (ps_setLc hc hN hk hy hsw hi okb hg ht he' hs).imp fun D σ H q => key σ H _ q
end
end Mk
set_option maxHeartbeats 4000000
/-! Mk: sorted keys of a dict comprehension over ints. -/
namespace Mk
open PySem L2
theorem dc_it {J : It} {n : Nat} {Gd : Hp → Prop} {Y : Nat → Hp → V → Hp → Prop} (w : Walk J n Gd Y) {g : TG} {tt : TT} {tk tv : TE} {vs : List Nat} {σ : St} {H1 : Hp} {D : Addr} {Qd : Hp → Prop} (Pv : Nat → Hp → Prop) (h0 : Pv 0 (upd H1 D (.dK []))) (hG : ∀ i H, i ≤ n → Pv i H → Gd H)
    (hs : ∀ i x H H', i < n → Pv i H → Y i H x H' → g x (wipe σ vs) H' fun σ2 H2 => wipe σ2 vs = wipe σ vs ∧ tt σ2 H2 fun b H3 =>
      if b = true then tk σ2 H3 fun y H4 => tv σ2 H4 fun z H5 => ∃ kvs k, y = kV k ∧ H5 D = some (.dK kvs) ∧ kvs.length < sizeLine ∧ Pv (i + 1) (upd H5 D (.dK (putK kvs k z))) else Pv (i + 1) H3) (hd : ∀ H, Pv n H → Qd H) :
    ∃ W : Nat → Nat → Hp → Prop, (∃ m, W 0 m (upd H1 D (.dK []))) ∧ ∀ i m H, W i m H →
      (J.stop i H ∧ Qd H) ∨ (J.go i H ∧ ∃ Nx : Hp → Prop, (∀ H', Nx H' → ∃ m', m' < m ∧ W (i + 1) m' H') ∧ ∀ x H', J.yld i H x H' → g x (wipe σ vs) H' fun σ2 H2 => wipe σ2 vs = wipe σ vs ∧ tt σ2 H2 fun b H3 =>
        if b = true then tk σ2 H3 fun y H4 => tv σ2 H4 fun z H5 => ∃ kvs k, y = kV k ∧ H5 D = some (.dK kvs) ∧ kvs.length < sizeLine ∧ Nx (upd H5 D (.dK (putK kvs k z))) else Nx H3) := by
  refine ⟨fun i m H => m = n - i ∧ i ≤ n ∧ Pv i H, ⟨n, by simp, Nat.zero_le _, h0⟩, ?_⟩
  rintro i m H ⟨rfl, hi, p⟩
  have q := hG i H hi p
  by_cases hlt : i < n
  · refine .inr ⟨w.goes i H hlt q, Pv (i + 1), fun H' p' => ⟨n - (i + 1), by omega, rfl, hlt, p'⟩, fun x H' y => hs i x H H' hlt p (w.yields i H x H' hlt q y)⟩
  · have e : i = n := by omega
    subst e
    exact .inl ⟨w.stops H q, hd H p⟩
theorem ints_map : ∀ {ts : List T} {ns : List Int}, intsT ts = some ns → ts = ns.map .int
  | [], ns, h => by cases h; rfl
  | t :: ts, ns, h => by
    cases t <;> first
      | (cases h; done)
      | skip
    rename_i i
    unfold intsT at h
    cases q : intsT ts with
    | none => rw [q] at h; cases h
    | some ms =>
      rw [q] at h
      cases h
      rw [List.map_cons, ← ints_map q]
def dictT (ks : List Int) : List (Key × T) := ks.map fun k => (Sum.inl k, T.bl true)
def dictV (ks : List Int) : List (Key × V) := ks.map fun k => (Sum.inl k, V.bl true)
section
variable {K : PySem.W.Frag} {F : Hp}
theorem repK_dict : ∀ (ks : List Int), RepK K F (dictT ks) (dictV ks)
  | [] => .nil
  | k :: ks => .cons (.bl true) (repK_dict ks)
theorem repK_dictV : ∀ {ks : List Int} {ws : List (Key × V)}, RepK K F (dictT ks) ws → ws = dictV ks
  | [], _, r => by cases r; rfl
  | k :: ks, _, r => by
    cases r with
    | cons a b => cases a; rw [repK_dictV b]; rfl
end
theorem put_dict (ks : List Int) (k : Int) : putK (dictV ks) (Sum.inl k) (V.bl true) = dictV (addI ks k) := by
  unfold putK addI
  by_cases h : k ∈ ks
  · rw [if_pos h, if_pos]
    · unfold dictV
      rw [List.map_map]
      apply List.map_congr_left
      intro j _
      show (if (Sum.inl j : Key) = Sum.inl k then ((Sum.inl j : Key), V.bl true) else (Sum.inl j, V.bl true)) = _
      split <;> rfl
    · rw [List.any_eq_true]
      exact ⟨(Sum.inl k, V.bl true), List.mem_map.mpr ⟨k, h, rfl⟩, by simp⟩
  · rw [if_neg h, if_neg]
    · unfold dictV
      rw [List.map_append]
      rfl
    · rw [List.any_eq_true]
      rintro ⟨p, hp, e⟩
      obtain ⟨j, hj, rfl⟩ := List.mem_map.mp hp
      have e : (Sum.inl j : Key) = Sum.inl k := by simpa using e
      cases e
      exact h hj
theorem once_snoc (ks : List Int) (k : Int) : onceI (ks ++ [k]) = addI (onceI ks) k := by unfold onceI; rw [List.foldl_append]; rfl
theorem addI_len (ks : List Int) (k : Int) : (addI ks k).length ≤ ks.length + 1 := by
  unfold addI
  split
  · omega
  · rw [List.length_append, List.length_singleton]; omega
theorem once_foldl_len : ∀ (ks acc : List Int), (ks.foldl addI acc).length ≤ acc.length + ks.length
  | [], acc => by simp
  | k :: ks, acc => by
    rw [List.foldl_cons, List.length_cons]
    have := once_foldl_len ks (addI acc k)
    have := addI_len acc k
    omega
theorem once_len (ks : List Int) : (onceI ks).length ≤ ks.length := by
  have := once_foldl_len ks []
  unfold onceI
  simpa using this
theorem map_int_inj : ∀ {xs ys : List Int}, xs.map T.int = ys.map T.int → xs = ys
  | [], [], _ => rfl
  | [], _ :: _, h => by cases h
  | _ :: _, [], h => by cases h
  | x :: xs, y :: ys, h => by
    have h := List.cons.inj h
    have h1 : T.int x = T.int y := h.1
    cases h1
    rw [map_int_inj (xs := xs) (ys := ys) h.2]
theorem mid_int {done : List Int} {te : T} {zs : List T} {ns : List Int} (h : done.map T.int ++ te :: zs = ns.map T.int) : ∃ k, te = .int k := by
  have : te ∈ ns.map T.int := by rw [← h]; simp
  obtain ⟨k, _, e⟩ := List.mem_map.mp this
  exact ⟨k, e.symm⟩
section
variable {K : PySem.W.Frag} {Cl : Nat → Option ClsI} {F H : Hp} {ρ : Slots} {σ : St} {As : Nat → AS} {G : Gc} {Z : Zs} {sc : Scope} {so : Str → Bool} {X : Cx}
theorem snd_sd {own : List Nat} {tg : Tg} {it : I} {cs : Cs} {elt : E} {e t i : Expr} {ifs : List Expr} {scope : Scope} {ow : List (Str × Nat)} {pos dpos p1 p2 : Pos} {x : Str} {j : Nat} (ok : Ok Z G Cl sc so X) (hx : x = "sorted") (hgl : glB sc x = true) (hbl : Z.bl.contains x = true) (hN : X.N.Nodup) (how : ow.map (·.2) = own)
    (hi : PI X t i (tI X.K Cl (evI G it))) (okb : BlkOk X.N X.env.scope scope ow) (htg : ∀ j ∈ tg.slots, j ∈ own)
    (hg : ∀ (s : Shared) (H : Hp) (C : Addr) (cl : List (Str × Addr)) (fp : List Addr), PG (X.blk s H scope (compEnvC scope cl C X.env) fp) t (tG X.K Cl G.pin tg))
    (ht : ∀ (s : Shared) (H : Hp) (C : Addr) (cl : List (Str × Addr)) (fp : List Addr), PTs (X.blk s H scope (compEnvC scope cl C X.env) fp) ifs (tCd X.K Cl (evCs G cs)))
    (he : ∀ (s : Shared) (H : Hp) (C : Addr) (cl : List (Str × Addr)) (fp : List Addr), PE (X.blk s H scope (compEnvC scope cl C X.env) fp) e (tE X.K Cl elt.vs (ev G elt)))
    (hs : ∀ x, foldedSetIterable i X.env x = pure x) :
    PE X (.Call (.Name x p1) [.DictComp e (.Constant (.bool true) j p2) [⟨t, i, ifs, 0⟩] scope dpos] [] pos) (tE X.K Cl false (ev G (.sd (.comp own tg it cs elt)))) := by
  have hc := ok.calm
  obtain ⟨gl, hd, hn⟩ := ok.gl hgl
  have hm := ok.bl x (List.contains_iff_mem.mp hbl)
  subst hx
  have he' : ∀ (s : Shared) (H : Hp) (C : Addr) (cl : List (Str × Addr)) (fp : List Addr), PE (X.blk s H scope (compEnvC scope cl C X.env) fp) e (tF X.K Cl false fun ρ => f1 (ev G elt ρ)) := fun s H C cl fp => (he s H C cl fp).keptN
  have pd := pe_dc (pos := dpos) hc hN hi okb hg ht he' (fun s H C cl fp => pe_bl (X := X.blk s H scope (compEnvC scope cl C X.env) fp) (b := true) (j := j) (pos := p2)) hs
  refine (pe_callB (call_sortedDI hc) gl hm (by decide +kernel) (pa_cons pd pa_nil) hn hd).imp ?_
  intro σ H Q q
  unfold tCB tCons tNil
  rw [how]
  obtain ⟨ρ, F, As, m, ρ', e1, g, k⟩ := q
  unfold ev at e1
  obtain ⟨m1, ρ1', e0, e1⟩ := bnd_some e1
  obtain ⟨m2, em, e1⟩ := obd_some e1
  cases e1
  unfold ev at e0
  obtain ⟨xs, ρ0, e2, e0⟩ := bnd_some e0
  obtain ⟨ys, ρ1, e3, e0⟩ := bnd_some e0
  cases e0
  have em : ((intsT ys).bind fun ns => if ns.length < 64 then some (M.bx (.ls ((sortI (onceI ns)).map T.int))) else none) = some m := em
  obtain ⟨ns, en, em⟩ := bind_some em
  split at em
  · rename_i h64
    cases em
    have eys := ints_map en
    refine ⟨ρ, F, As, xs, ρ0, e2, g, fun J F1 As1 H1 st1 g1 it1 hz D hD => ?_⟩
    obtain ⟨Gd, Y, wk, hG, hY⟩ := it1
    -- between the turns: the run's rest, the keys so far at D
    refine dc_it wk (fun n H' => ∃ ρn Fn An done rest, compL own (fun x ρ => obd (tg.store G.pin x ρ) fun ρ => bnd (evCs G cs ρ) fun k ρ => if k = true then bnd (f1 (ev G elt ρ)) fun t ρ => some (some t, ρ) else some (none, ρ)) (xs.drop n) ρn = some (rest, ρ1) ∧
        ys = done.map T.int ++ rest ∧ H' D = some (.dK (dictV (onceI done))) ∧ Fn D = none ∧ (∀ j, ¬ An j D) ∧ Good X.K Cl (wipeS own ρn) (wipe σ own) Fn An H' ∧
        Step false F1 (Own (wipeA own As1)) H1 Fn ((Own An).or fun b => b = D) H') ?_ (fun n H' _ ⟨_, _, _, _, _, _, _, _, _, _, gg, stt⟩ => hG H' (stt.hf.trans gg.same)) ?_ ?_
    · -- the start
      have gw := g1.wiped own
      obtain ⟨g2, st2, d2⟩ := gw.after (new_own (o := .dK []) g1.same hD) (g1.same.trans (Same.push hD))
      exact ⟨ρ0, F1, _, [], ys, by rw [List.drop_zero]; exact e3, rfl, upd_same, g1.same.free hD, fun j hj => d2 D rfl ⟨j, hj⟩, g2, st2.weak fun z => by cases z⟩
    · -- a turn
      rintro n x H2 H3 hn ⟨ρn, Fn, An, done, rest, c1, c2, hDv, c5, c6, gg, stt⟩ y
      have hdn : (onceI done).length < 64 := by
        have h1 := congrArg List.length (c2.symm.trans eys)
        simp at h1
        have := once_len done
        omega
      have gv := hY n H2 x H3 hn y
      have gv' : Gives X.K Fn xs n H2 x H3 := by
        obtain ⟨t, h1, h | ⟨p, vs, ts, h2, h3, h4, h5, h6, h7⟩⟩ := gv
        · exact ⟨t, h1, .inl ⟨h.1, h.2.mono stt.hf⟩⟩
        · exact ⟨t, h1, .inr ⟨p, vs, ts, h2, h3, h4, h5, h6, h7.mono stt.hf⟩⟩
      obtain ⟨t0, F3, hx, g3, r3, st3⟩ := gg.item gv'
      obtain ⟨y0, ρa, zs, h1, h2, h3⟩ := compL_cons hx c1
      obtain ⟨ρb, h4, h1⟩ := obd_some h1
      obtain ⟨kk, ρc, h5, h1⟩ := bnd_some h1
      -- D stands aside
      have heldD : RepM X.K Cl Fn H2 (.bx (.dk (dictT (onceI done)))) (.ref D) (fun b => b = D) := ⟨D, _, rfl, fun _ => Iff.rfl, c5, hDv, by
        unfold dictV; rw [List.length_map]; exact Nat.le_of_lt (Nat.lt_trans hdn (by decide)), repK_dict _⟩
      refine ⟨_, F3, An, t0, ρb, h4, g3, r3, fun σ4 A4 g4 o4 p4 w4 => ⟨?_, ?_⟩⟩
      · rw [w4 own htg]
        exact wipe_idem
      · refine ⟨ρb, F3, A4, kk, ρc, h5, g4, fun F5 A5 H5 st5 g5 => ?_⟩
        have st35 : Step false Fn (Own An) H2 F5 (Own A5) H5 := ((st3.trans (st5.more o4)).weak fun z => by cases z)
        obtain ⟨hD5, nD5⟩ := st35.held heldD fun b hb ⟨j, hj⟩ => by rw [hb] at hj; exact c6 j hj
        cases kk with
        | false =>
          rw [if_neg Bool.false_ne_true] at h1
          cases h1
          refine iteF ⟨ρa, F5, wipeA own A5, done, zs, h2, by rw [c2, h3], ?_, ?_, fun j hj => nD5 D rfl (wipeA_le D ⟨j, hj⟩), ?_, ?_⟩
          · obtain ⟨a, ws, ea, _, _, hh, _, rr⟩ := (show RepB X.K F5 H5 (.dk (dictT (onceI done))) (.ref D) _ from hD5)
            cases ea
            rw [← repK_dictV rr]
            exact hh
          · exact (hD5.own D rfl).1
          · have := g5.wiped own
            rw [w4 own htg] at this
            rw [wipe_idem] at this
            exact this
          · refine ((stt.trans st35.with).less fun b h => ?_).weak fun z => by cases z
            exact h.imp (wipeA_le b) id
        | true =>
          rw [if_pos rfl] at h1
          obtain ⟨te, ρd, h6, h1⟩ := bnd_some h1
          cases h1
          refine iteT ⟨ρc, F5, A5, te, ρa, h6, g5, fun v6 F6 A6 H6 st6 g6 r6 => ?_⟩
          have st36 := (st35.trans st6).weak (q := false) fun z => by cases z
          obtain ⟨hD6, nD6⟩ := st36.held heldD fun b hb ⟨j, hj⟩ => by rw [hb] at hj; exact c6 j hj
          obtain ⟨a, ws, ea, _, fD, hh, hzw, rr⟩ := (show RepB X.K F6 H6 (.dk (dictT (onceI done))) (.ref D) _ from hD6)
          cases ea
          have ews := repK_dictV rr
          subst ews
          have h3 : rest = te :: zs := h3
          obtain ⟨kx, rfl⟩ := mid_int (by rw [← h3, ← c2]; exact eys)
          cases r6
          refine ⟨dictV (onceI done), Sum.inl kx, rfl, hh, by unfold dictV; rw [List.length_map]; exact Nat.lt_trans hdn (by decide), ρa, F6, wipeA own A6, done ++ [kx], zs, h2, by rw [c2, h3]; simp, by rw [upd_same, put_dict, once_snoc], fD, fun j hj => nD6 D rfl (wipeA_le D ⟨j, hj⟩), ?_, ?_⟩
          · have gw := g6.wiped own
            rw [w4 own htg, wipe_idem] at gw
            refine ⟨fun b o e => ?_, fun j m e => ?_, gw.out, gw.dis, gw.len⟩
            · rw [upd_ne fun z => by rw [z, fD] at e; cases e]; exact gw.same b o e
            · obtain ⟨v, ev, r⟩ := gw.rep j m e
              refine ⟨v, ev, r.mono (Same.refl _) (fun b hb => (r.own b hb).1) fun b o hb e => ?_⟩
              rw [upd_ne fun z => by rw [z] at hb; exact nD6 D rfl (wipeA_le D ⟨j, hb⟩)]
              exact e
          · have sw : Step false F6 ((Own A6).or fun b => b = D) H6 F6 ((Own A6).or fun b => b = D) (upd H6 D (.dK (putK (dictV (onceI done)) (Sum.inl kx) (V.bl true)))) := step_write (.inr rfl) ⟨_, hh⟩
            refine (((stt.trans st36.with).trans sw).less fun b h => ?_).weak fun z => by cases z
            exact h.imp (wipeA_le b) id
    · -- the end
      rintro H2 ⟨ρn, Fn, An, done, rest, c1, c2, hDv, c5, c6, gg, stt⟩
      rw [List.drop_length] at c1
      cases c1
      rw [List.append_nil] at c2
      have ed : done = ns := map_int_inj (c2.symm.trans eys)
      subst ed
      -- the slots as the turns left them, those own as they were
      have gg' : Good X.K Cl (wipeS own ρ1) (wipe σ own) Fn An H2 := gg
      obtain ⟨A', g', o1, o2⟩ := g1.back gg' stt
      have eb : backS own ρ0 (wipeS own ρ1) = backS own ρ0 ρ1 := by
        apply List.ext_getElem?
        intro j
        rw [backS_get, backS_get, wipeS_len, wipeS_get]
        by_cases hj : j ∈ own ∧ j < ρ1.length
        · rw [if_pos hj, if_pos hj]
        · rw [if_neg hj, if_neg hj, if_neg hj]
      rw [eb] at g'
      have stf : Step false F1 (Own As1) H1 Fn (Own A') H2 := ⟨stt.hf, fun b o e n => stt.keep b o e fun z => n (wipeA_le b z),
        fun b h => (o1 b h).elim (fun y => (stt.own b (.inl y)).imp (wipeA_le b) id) .inl,
        fun b o e => (stt.frz b o e).imp id (Or.imp (wipeA_le b) id), fun z => by cases z⟩
      refine ⟨D, _, onceI done, rfl, Rd.of hDv, ?_, Nat.lt_of_le_of_lt (once_len done) h64, fun zs p hp hsrt hfr => ?_⟩
      · unfold dictV
        rw [List.map_map]
        rfl
      have ez : zs = sortI (onceI done) := PySem.W.ksm_same (hp.trans (sortI_perm _).symm) hsrt (sortI_sorted _)
      subst ez
      obtain ⟨g2, st2, d2⟩ := g'.after (new_own (o := .lst ((sortI (onceI done)).map V.int)) g'.same hfr) (g'.same.trans (Same.push hfr))
      refine k (.ref p) Fn A' (fun b => b = p) _ (((st1.trans stf).trans st2).weak fun z => by cases z) g2 ⟨p, _, rfl, fun _ => Iff.rfl, g'.same.free hfr, upd_same, ?_, RepTs.ints _⟩ d2
      rw [List.length_map, (sortI_perm _).length_eq]
      have := once_len done
      exact Nat.le_of_lt (Nat.lt_of_le_of_lt this (Nat.lt_trans h64 (by decide)))
  · cases em
end
end Mk
set_option maxHeartbeats 4000000
/-! Mk: comprehensions of two clauses. -/
namespace Mk
open PySem L2
section
variable {K : PySem.W.Frag} {Cl : Nat → Option ClsI} {F H : Hp} {ρ : Slots} {σ : St} {As : Nat → AS} {G : Gc} {Z : Zs} {sc : Scope} {so : Str → Bool} {X : Cx}
/-- a walk, its turn told by Bd -/
theorem it_gen {J : It} {n : Nat} {Gd : Hp → Prop} {Y : Nat → Hp → V → Hp → Prop} (w : Walk J n Gd Y) {H0 : Hp} {Qd : Hp → Prop} {Bd : (Hp → Prop) → V → Hp → Prop} (Pv : Nat → Hp → Prop) (h0 : Pv 0 H0) (hG : ∀ i H, i ≤ n → Pv i H → Gd H)
    (hs : ∀ i x H H', i < n → Pv i H → Y i H x H' → Bd (Pv (i + 1)) x H') (hd : ∀ H, Pv n H → Qd H) :
    ∃ W : Nat → Nat → Hp → Prop, (∃ m, W 0 m H0) ∧ ∀ i m H, W i m H → (J.stop i H ∧ Qd H) ∨ (J.go i H ∧ ∃ Nx : Hp → Prop, (∀ H', Nx H' → ∃ m', m' < m ∧ W (i + 1) m' H') ∧ ∀ x H', J.yld i H x H' → Bd Nx x H') := by
  refine ⟨fun i m H => m = n - i ∧ i ≤ n ∧ Pv i H, ⟨n, by simp, Nat.zero_le _, h0⟩, ?_⟩
  rintro i m H ⟨rfl, hi, p⟩
  have q := hG i H hi p
  by_cases hlt : i < n
  · exact .inr ⟨w.goes i H hlt q, Pv (i + 1), fun H' p' => ⟨n - (i + 1), by omega, rfl, hlt, p'⟩, fun x H' y => hs i x H H' hlt p (w.yields i H x H' hlt q y)⟩
  · have e : i = n := by omega
    subst e
    exact .inl ⟨w.stops H q, hd H p⟩
/-- the new list stands at D with the items done, apart from the slots -/
structure DAt (K : PySem.W.Frag) (Cl : Nat → Option ClsI) (ρ : Slots) (σ : St) (F : Hp) (As : Nat → AS) (H : Hp) (D : Addr) (done : List T) : Prop where
  at_ : ∃ vs, H D = some (.lst vs) ∧ RepTs K F done vs
  nF : F D = none
  nA : ∀ j, ¬ As j D
  g : Good K Cl ρ σ F As H
theorem gives_mono {F F' : Hp} {xs : List T} {i : Nat} {H H' : Hp} {v : V} (s : Same F F') (gv : Gives K F xs i H v H') : Gives K F' xs i H v H' := by
  obtain ⟨t, h1, h | ⟨p, vs, ts, h2, h3, h4, h5, h6, h7⟩⟩ := gv
  · exact ⟨t, h1, .inl ⟨h.1, h.2.mono s⟩⟩
  · exact ⟨t, h1, .inr ⟨p, vs, ts, h2, h3, h4, h5, h6, h7.mono s⟩⟩
theorem DAt.step {D : Addr} {done : List T} {p : Bool} {ρ' : Slots} {σ' : St} {F' : Hp} {As' : Nat → AS} {H' : Hp} (d : DAt K Cl ρ σ F As H D done) (hz : done.length ≤ sizeLine) (st : Step p F (Own As) H F' (Own As') H') (g' : Good K Cl ρ' σ' F' As' H') :
    DAt K Cl ρ' σ' F' As' H' D done ∧ Step p F ((Own As).or fun b => b = D) H F' ((Own As').or fun b => b = D) H' := by
  obtain ⟨vs, hD, rv⟩ := d.at_
  have heldD : RepM K Cl F H (.bx (.ls done)) (.ref D) (fun b => b = D) := ⟨D, vs, rfl, fun _ => Iff.rfl, d.nF, hD, by rw [← rv.length]; exact hz, rv⟩
  obtain ⟨hD', nD'⟩ := st.held heldD fun b hb ⟨j, hj⟩ => by rw [hb] at hj; exact d.nA j hj
  refine ⟨⟨?_, (hD'.own D rfl).1, fun j hj => nD' D rfl ⟨j, hj⟩, g'⟩, st.with⟩
  obtain ⟨a, ws, ea, _, _, hh, _, rr⟩ := (show RepB K F' H' (.ls done) (.ref D) _ from hD')
  cases ea
  exact ⟨ws, hh, rr⟩
theorem DAt.wiped {D : Addr} {done : List T} (d : DAt K Cl ρ σ F As H D done) (own : List Nat) : DAt K Cl (wipeS own ρ) (wipe σ own) F (wipeA own As) H D done :=
  ⟨d.at_, d.nF, fun j hj => by
    unfold wipeA at hj
    split at hj
    · exact hj
    · exact d.nA j hj, d.g.wiped own⟩
theorem DAt.push {D : Addr} {done : List T} {t : T} {v : V} (d : DAt K Cl ρ σ F As H D done) (hz : done.length < sizeLine) (r : RepT K F t v) :
    ∃ acc, H D = some (.lst acc) ∧ acc.length < sizeLine ∧ DAt K Cl ρ σ F As (upd H D (.lst (acc ++ [v]))) D (done ++ [t]) ∧ Step false F ((Own As).or fun b => b = D) H F ((Own As).or fun b => b = D) (upd H D (.lst (acc ++ [v]))) := by
  obtain ⟨ws, hD, rr⟩ := d.at_
  refine ⟨ws, hD, by rw [← rr.length]; exact hz, ⟨⟨ws ++ [v], upd_same, rr.append (.cons r .nil)⟩, d.nF, d.nA, ⟨fun b o e => ?_, fun j m e => ?_, d.g.out, d.g.dis, d.g.len⟩⟩, step_write (.inr rfl) ⟨_, hD⟩⟩
  · rw [upd_ne fun z => by rw [z, d.nF] at e; cases e]; exact d.g.same b o e
  · obtain ⟨v', ev, r'⟩ := d.g.rep j m e
    refine ⟨v', ev, r'.mono (Same.refl _) (fun b hb => (r'.own b hb).1) fun b o hb e => ?_⟩
    rw [upd_ne fun z => by rw [z] at hb; exact d.nA j hb]
    exact e
theorem wipeA_own {own : List Nat} {As : Nat → AS} {D : Addr} : ∀ b, ((Own (wipeA own As)).or fun b => b = D) b → ((Own As).or fun b => b = D) b := fun b h => h.imp (wipeA_le b) id
/-- the turns of one clause, its items laid behind those that stand at D -/
theorem comp_in {own : List Nat} {tg : Tg} {cs : Cs} {elt : E} {J : It} {xs : List T} {ρ0 ρ1 : Slots} {F1 : Hp} {As1 : Nat → AS} {H1 : Hp} {D : Addr} {done rest : List T} {Qd : Hp → Prop} (htg : ∀ j ∈ tg.slots, j ∈ own)
    (it1 : ItOk K F1 J xs) (d1 : DAt K Cl ρ0 σ F1 As1 H1 D done) (hz : (done ++ rest).length ≤ sizeLine)
    (e : compL own (fun x ρ => obd (tg.store G.pin x ρ) fun ρ => bnd (evCs G cs ρ) fun k ρ => if k = true then bnd (f1 (ev G elt ρ)) fun t ρ => some (some t, ρ) else some (none, ρ)) xs ρ0 = some (rest, ρ1))
    (fin : ∀ Hn Fn An, DAt K Cl (wipeS own ρ1) (wipe σ own) Fn An Hn D (done ++ rest) → Step false F1 ((Own As1).or fun b => b = D) H1 Fn ((Own An).or fun b => b = D) Hn → Qd Hn) :
    ∃ W : Nat → Nat → Hp → Prop, (∃ m, W 0 m H1) ∧ ∀ i m H, W i m H → (J.stop i H ∧ Qd H) ∨ (J.go i H ∧ ∃ Nx : Hp → Prop, (∀ H', Nx H' → ∃ m', m' < m ∧ W (i + 1) m' H') ∧ ∀ x H', J.yld i H x H' →
      (tG K Cl G.pin tg) x (wipe σ own) H' fun σ2 H2 => wipe σ2 own = wipe σ own ∧ (tCd K Cl (evCs G cs)) σ2 H2 fun b H3 =>
        if b = true then (tF K Cl false fun ρ => f1 (ev G elt ρ)) σ2 H3 fun y H4 => ∃ acc, H4 D = some (.lst acc) ∧ acc.length < sizeLine ∧ Nx (upd H4 D (.lst (acc ++ [y]))) else Nx H3) := by
  obtain ⟨Gd, Y, wk, hG, hY⟩ := it1
  refine it_gen (Bd := fun Nx x H' => (tG K Cl G.pin tg) x (wipe σ own) H' fun σ2 H2 => wipe σ2 own = wipe σ own ∧ (tCd K Cl (evCs G cs)) σ2 H2 fun b H3 =>
        if b = true then (tF K Cl false fun ρ => f1 (ev G elt ρ)) σ2 H3 fun y H4 => ∃ acc, H4 D = some (.lst acc) ∧ acc.length < sizeLine ∧ Nx (upd H4 D (.lst (acc ++ [y]))) else Nx H3) wk
    (fun n H' => ∃ ρn Fn An dn rn, compL own (fun x ρ => obd (tg.store G.pin x ρ) fun ρ => bnd (evCs G cs ρ) fun k ρ => if k = true then bnd (f1 (ev G elt ρ)) fun t ρ => some (some t, ρ) else some (none, ρ)) (xs.drop n) ρn = some (rn, ρ1) ∧
        done ++ rest = dn ++ rn ∧ DAt K Cl (wipeS own ρn) (wipe σ own) Fn An H' D dn ∧ Step false F1 ((Own As1).or fun b => b = D) H1 Fn ((Own An).or fun b => b = D) H') ?_ (fun n H' _ ⟨_, _, _, _, _, _, _, d, stt⟩ => hG H' (stt.hf.trans d.g.same)) ?_ ?_
  · exact ⟨ρ0, F1, _, done, rest, by rw [List.drop_zero]; exact e, rfl, d1.wiped own, Step.refl.less wipeA_own⟩
  · rintro n x H2 H3 hn ⟨ρn, Fn, An, dn, rn, c1, c2, d, stt⟩ y
    have hzn : dn.length + rn.length ≤ sizeLine := by rw [c2, List.length_append] at hz; exact hz
    obtain ⟨t0, F3, hx, g3, r3, st3⟩ := d.g.item (gives_mono stt.hf (hY n H2 x H3 hn y))
    obtain ⟨y0, ρa, zs, h1, h2, h3⟩ := compL_cons hx c1
    obtain ⟨ρb, h4, h1⟩ := obd_some h1
    obtain ⟨kk, ρc, h5, h1⟩ := bnd_some h1
    have hlen : y0.toList.length + zs.length = rn.length := by rw [h3]; cases y0 <;> simp <;> omega
    refine ⟨_, F3, An, t0, ρb, h4, g3, r3, fun σ4 A4 g4 o4 p4 w4 => ⟨?_, ?_⟩⟩
    · rw [w4 own htg]
      exact wipe_idem
    · refine ⟨ρb, F3, A4, kk, ρc, h5, g4, fun F5 A5 H5 st5 g5 => ?_⟩
      have st35 : Step false Fn (Own An) H2 F5 (Own A5) H5 := ((st3.trans (st5.more o4)).weak fun z => by cases z)
      obtain ⟨d5, s5⟩ := d.step (by omega) st35 g5
      cases kk with
      | false =>
        rw [if_neg Bool.false_ne_true] at h1
        cases h1
        have d5' := d5.wiped own
        rw [w4 own htg, wipe_idem] at d5'
        exact iteF ⟨ρa, F5, _, dn, zs, h2, by rw [c2, h3], d5', ((stt.trans s5).less wipeA_own).weak fun z => by cases z⟩
      | true =>
        rw [if_pos rfl] at h1
        obtain ⟨te, ρd, h6, h1⟩ := bnd_some h1
        cases h1
        refine iteT ⟨ρc, F5, A5, te, ρa, h6, g5, fun v6 F6 A6 H6 st6 g6 r6 => ?_⟩
        obtain ⟨d6, s6⟩ := d5.step (by omega) st6 g6
        obtain ⟨acc, hh, hz6, d7, s7⟩ := d6.push (t := te) (v := v6) (by simp at hlen; omega) r6
        have d7' := d7.wiped own
        rw [w4 own htg, wipe_idem] at d7'
        exact ⟨acc, hh, hz6, ρa, F6, _, dn ++ [te], zs, h2, by rw [c2, h3]; simp, d7', ((((stt.trans s5).trans s6).trans s7).less wipeA_own).weak fun z => by cases z⟩
  · rintro H2 ⟨ρn, Fn, An, dn, rn, c1, c2, d, stt⟩
    rw [List.drop_length] at c1
    cases c1
    rw [List.append_nil] at c2
    exact fin H2 Fn An (by rw [c2]; exact d) stt
theorem compLL_cons {own : List Nat} {f : T → Slots → Option (List T × Slots)} {xs : List T} {i : Nat} {t : T} {ρ ρ' : Slots} {ys : List T} (e : xs[i]? = some t) (h : compLL own f (xs.drop i) ρ = some (ys, ρ')) :
    ∃ y ρ1 zs, f t (wipeS own ρ) = some (y, ρ1) ∧ compLL own f (xs.drop (i + 1)) ρ1 = some (zs, ρ') ∧ ys = y ++ zs := by
  have hd : xs.drop i = t :: xs.drop (i + 1) := by
    obtain ⟨h1, h2⟩ := List.getElem?_eq_some_iff.mp e
    rw [List.drop_eq_getElem_cons h1, h2]
  rw [hd] at h
  unfold compLL at h
  obtain ⟨y, ρ1, h1, h⟩ := bnd_some h
  obtain ⟨zs, ρ2, h2, h⟩ := bnd_some h
  cases h
  exact ⟨y, ρ1, zs, h1, h2, rfl⟩
theorem wipeS_sub {own own2 : List Nat} {ρ : Slots} (h : ∀ i ∈ own2, i ∈ own) : wipeS own (wipeS own2 ρ) = wipeS own ρ := by
  apply List.ext_getElem?
  intro j
  rw [wipeS_get, wipeS_get, wipeS_len, wipeS_get]
  by_cases hj : j ∈ own ∧ j < ρ.length
  · rw [if_pos hj, if_pos hj]
  · rw [if_neg hj, if_neg hj, if_neg fun z => hj ⟨h j z.1, z.2⟩]
theorem wipe_sub {own own2 : List Nat} {σ : St} (h : ∀ i ∈ own2, i ∈ own) : wipe (wipe σ own2) own = wipe σ own := by
  apply List.ext_getElem?
  intro j
  by_cases hj : j ∈ own
  · rw [wipe_in hj, wipe_in hj, wipe_length]
  · rw [wipe_out hj, wipe_out hj, wipe_out fun z => hj (h j z)]
theorem snd_comp2 {own own2 : List Nat} {tg tg2 : Tg} {it it2 : I} {cs cs2 : Cs} {elt : E} {e t i t2 i2 : Expr} {ifs ifs2 : List Expr} {scope : Scope} {ow : List (Str × Nat)} {pos : Pos} (hc : X.calm = true) (hN : X.N.Nodup) (how : ow.map (·.2) = own) (hsub : ∀ j ∈ own2, j ∈ own)
    (hi : PI X t i (tI X.K Cl (evI G it))) (okb : BlkOk X.N X.env.scope scope ow) (htg : ∀ j ∈ tg.slots, j ∈ own) (htg2 : ∀ j ∈ tg2.slots, j ∈ own2)
    (hg : ∀ (s : Shared) (H : Hp) (C : Addr) (cl : List (Str × Addr)) (fp : List Addr), PG (X.blk s H scope (compEnvC scope cl C X.env) fp) t (tG X.K Cl G.pin tg))
    (ht : ∀ (s : Shared) (H : Hp) (C : Addr) (cl : List (Str × Addr)) (fp : List Addr), PTs (X.blk s H scope (compEnvC scope cl C X.env) fp) ifs (tCd X.K Cl (evCs G cs)))
    (hi2 : ∀ (s : Shared) (H : Hp) (C : Addr) (cl : List (Str × Addr)) (fp : List Addr), PI (X.blk s H scope (compEnvC scope cl C X.env) fp) t2 i2 (tI X.K Cl (evI G it2)))
    (hg2 : ∀ (s : Shared) (H : Hp) (C : Addr) (cl : List (Str × Addr)) (fp : List Addr), PG (X.blk s H scope (compEnvC scope cl C X.env) fp) t2 (tG X.K Cl G.pin tg2))
    (ht2 : ∀ (s : Shared) (H : Hp) (C : Addr) (cl : List (Str × Addr)) (fp : List Addr), PTs (X.blk s H scope (compEnvC scope cl C X.env) fp) ifs2 (tCd X.K Cl (evCs G cs2)))
    (he : ∀ (s : Shared) (H : Hp) (C : Addr) (cl : List (Str × Addr)) (fp : List Addr), PE (X.blk s H scope (compEnvC scope cl C X.env) fp) e (tE X.K Cl elt.vs (ev G elt)))
    (hs : ∀ x, foldedSetIterable i X.env x = pure x) (hs2 : ∀ env x, foldedSetIterable i2 env x = pure x) :
    (PE X (.ListComp e [⟨t, i, ifs, 0⟩, ⟨t2, i2, ifs2, 0⟩] scope pos) (tE X.K Cl false (ev G (.comp2 own own2 tg it cs tg2 it2 cs2 elt)))) ∧
    (∀ {k : Nat} {y : Str} {py spos : Pos}, X.N[k]? = some y → X.env.scope.names.lookup y = some .local → swapsWith (.ListComp e [⟨t, i, ifs, 0⟩, ⟨t2, i2, ifs2, 0⟩] scope pos) (some (.Name y py)) spos.line X.env = pure true →
      PS X (.Assign [.Name y py] (.ListComp e [⟨t, i, ifs, 0⟩, ⟨t2, i2, ifs2, 0⟩] scope pos) spos) (tAsg (tE X.K Cl false (ev G (.comp2 own own2 tg it cs tg2 it2 cs2 elt))) (gName k))) := by
  have key : ∀ (σ : St) (H : Hp) (Q : VK), tE X.K Cl false (ev G (.comp2 own own2 tg it cs tg2 it2 cs2 elt)) σ H Q →
      tLc2 (tI X.K Cl (evI G it)) (tG X.K Cl G.pin tg) (tCd X.K Cl (evCs G cs)) (tI X.K Cl (evI G it2)) (tG X.K Cl G.pin tg2) (tCd X.K Cl (evCs G cs2)) (tF X.K Cl false fun ρ => f1 (ev G elt ρ)) (ow.map (·.2)) own2 σ H Q := by
    intro σ H Q q
    rw [how]
    obtain ⟨ρ, F, As, m, ρ', e1, g, k⟩ := q
    unfold ev at e1
    obtain ⟨xs, ρ0, e2, e1⟩ := bnd_some e1
    obtain ⟨ys, ρ1, e3, e1⟩ := bnd_some e1
    split at e1
    · rename_i hzz
      cases e1
      refine ⟨ρ, F, As, xs, ρ0, e2, g, fun J F1 As1 H1 st1 g1 it1 hz D hD => ?_⟩
      obtain ⟨Gd, Y, wk, hG, hY⟩ := it1
      refine it_gen (Bd := fun Nx x H' => (tG X.K Cl G.pin tg) x (wipe σ own) H' fun σ2 H2 => wipe σ2 own = wipe σ own ∧ (tCd X.K Cl (evCs G cs)) σ2 H2 fun b H3 =>
          if b = true then (tI X.K Cl (evI G it2)) σ2 H3 fun J1 H4 => ∃ W1 : Nat → Nat → Hp → Prop, (∃ m, W1 0 m H4) ∧ ∀ j k H, W1 j k H →
            (J1.stop j H ∧ Nx H) ∨ (J1.go j H ∧ ∃ Nx1 : Hp → Prop, (∀ H', Nx1 H' → ∃ k', k' < k ∧ W1 (j + 1) k' H') ∧ ∀ x H', J1.yld j H x H' → (tG X.K Cl G.pin tg2) x (wipe σ2 own2) H' fun σ3 H5 => wipe σ3 own2 = wipe σ2 own2 ∧ (tCd X.K Cl (evCs G cs2)) σ3 H5 fun b H6 =>
              if b = true then (tF X.K Cl false fun ρ => f1 (ev G elt ρ)) σ3 H6 fun y H7 => ∃ acc, H7 D = some (.lst acc) ∧ acc.length < sizeLine ∧ Nx1 (upd H7 D (.lst (acc ++ [y]))) else Nx1 H6)
          else Nx H3) wk (fun n H' => ∃ ρn Fn An dn rn, compLL own (fun x ρ => obd (tg.store G.pin x ρ) fun ρ => bnd (evCs G cs ρ) fun k ρ =>
            if k = true then bnd (evI G it2 ρ) fun zs ρ => compL own2 (fun z ρ => obd (tg2.store G.pin z ρ) fun ρ => bnd (evCs G cs2 ρ) fun k ρ =>
              if k = true then bnd (f1 (ev G elt ρ)) fun t ρ => some (some t, ρ) else some (none, ρ)) zs ρ else some ([], ρ)) (xs.drop n) ρn = some (rn, ρ1) ∧
          ys = dn ++ rn ∧ DAt X.K Cl (wipeS own ρn) (wipe σ own) Fn An H' D dn ∧ Step false F1 (Own (wipeA own As1)) H1 Fn ((Own An).or fun b => b = D) H') ?_ (fun n H' _ ⟨_, _, _, _, _, _, _, d, stt⟩ => hG H' (stt.hf.trans d.g.same)) ?_ ?_
      · have gw := g1.wiped own
        obtain ⟨g2, st2, d2⟩ := gw.after (new_own (o := .lst []) g1.same hD) (g1.same.trans (Same.push hD))
        exact ⟨ρ0, F1, _, [], ys, by rw [List.drop_zero]; exact e3, rfl, ⟨⟨[], upd_same, .nil⟩, g1.same.free hD, fun j hj => d2 D rfl ⟨j, hj⟩, g2⟩, st2.weak fun z => by cases z⟩
      · rintro n x H2 H3 hn ⟨ρn, Fn, An, dn, rn, c1, c2, d, stt⟩ y
        have hzn : dn.length + rn.length ≤ sizeLine := by rw [c2, List.length_append] at hzz; exact hzz
        obtain ⟨t0, F3, hx, g3, r3, st3⟩ := d.g.item (gives_mono stt.hf (hY n H2 x H3 hn y))
        obtain ⟨y0, ρa, zs, h1, h2, h3⟩ := compLL_cons hx c1
        have hlen : y0.length + zs.length = rn.length := by rw [h3, List.length_append]
        obtain ⟨ρb, h4, h1⟩ := obd_some h1
        obtain ⟨kk, ρc, h5, h1⟩ := bnd_some h1
        refine ⟨_, F3, An, t0, ρb, h4, g3, r3, fun σ4 A4 g4 o4 p4 w4 => ⟨?_, ?_⟩⟩
        · rw [w4 own htg]
          exact wipe_idem
        · refine ⟨ρb, F3, A4, kk, ρc, h5, g4, fun F5 A5 H5 st5 g5 => ?_⟩
          have st35 : Step false Fn (Own An) H2 F5 (Own A5) H5 := ((st3.trans (st5.more o4)).weak fun z => by cases z)
          obtain ⟨d5, s5⟩ := d.step (by omega) st35 g5
          cases kk with
          | false =>
            rw [if_neg Bool.false_ne_true] at h1
            cases h1
            have d5' := d5.wiped own
            rw [w4 own htg, wipe_idem] at d5'
            exact iteF ⟨ρa, F5, _, dn, zs, h2, by rw [c2, h3]; rfl, d5', ((stt.trans s5).less wipeA_own).weak fun z => by cases z⟩
          | true =>
            rw [if_pos rfl] at h1
            obtain ⟨us, ρd, h6, h1⟩ := bnd_some h1
            refine iteT ⟨ρc, F5, A5, us, ρd, h6, g5, fun J1 F6 A6 H6 st6 g6 it6 hz6 => ?_⟩
            obtain ⟨d6, s6⟩ := d5.step (by omega) st6 g6
            refine comp_in htg2 it6 d6 (by rw [List.length_append]; omega) h1 fun Hn Fm Am dm sm => ?_
            have dm' := dm.wiped own
            rw [wipeS_sub hsub, wipe_sub hsub, w4 own htg, wipe_idem] at dm'
            exact ⟨ρa, Fm, _, dn ++ y0, zs, h2, by rw [c2, h3, List.append_assoc], dm', ((((stt.trans s5).trans s6).trans sm).less wipeA_own).weak fun z => by cases z⟩
      · rintro H2 ⟨ρn, Fn, An, dn, rn, c1, c2, d, stt⟩
        rw [List.drop_length] at c1
        cases c1
        rw [List.append_nil] at c2
        subst c2
        obtain ⟨A', g', o1, o2⟩ := g1.back d.g stt
        have eb : backS own ρ0 (wipeS own ρ1) = backS own ρ0 ρ1 := by
          apply List.ext_getElem?
          intro j
          rw [backS_get, backS_get, wipeS_len, wipeS_get]
          by_cases hj : j ∈ own ∧ j < ρ1.length
          · rw [if_pos hj, if_pos hj]
          · rw [if_neg hj, if_neg hj, if_neg hj]
        rw [eb] at g'
        obtain ⟨vs, hDv, rv⟩ := d.at_
        have stf : Step false F1 (Own As1) H1 Fn ((Own A').or fun b => b = D) H2 := ⟨stt.hf, fun b o e n => stt.keep b o e fun z => n (wipeA_le b z),
          fun b h => h.elim (fun z => (o1 b z).elim (fun y => (stt.own b (.inl y)).imp (wipeA_le b) id) .inl) fun z => (stt.own b (.inr z)).imp (wipeA_le b) id,
          fun b o e => (stt.frz b o e).imp id (Or.imp (wipeA_le b) id), fun z => by cases z⟩
        refine k (.ref D) Fn A' (fun b => b = D) H2 ((st1.trans stf).weak fun z => by cases z) g' ⟨D, vs, rfl, fun _ => Iff.rfl, d.nF, hDv, by rw [← rv.length]; exact hzz, rv⟩ fun b hb ha => ?_
        rw [hb] at ha
        obtain ⟨j, hj⟩ := o2 D ha rfl
        exact d.nA j hj
    · cases e1
  have he' : ∀ (s : Shared) (H : Hp) (C : Addr) (cl : List (Str × Addr)) (fp : List Addr), PE (X.blk s H scope (compEnvC scope cl C X.env) fp) e (tF X.K Cl false fun ρ => f1 (ev G elt ρ)) := fun s H C cl fp => (he s H C cl fp).keptN
  have hv : ∀ i ∈ own2, i ∈ ow.map (·.2) := by rw [how]; exact hsub
  refine ⟨(pe_lc2 hc hN hi okb hv hg ht hi2 hg2 ht2 he' hs hs2).imp key, fun {k y py spos} hk hy hsw => ?_⟩
  exact (ps_setLc2 hc hN hk hy hsw hi okb hv hg ht hi2 hg2 ht2 he' hs hs2).imp fun D σ H q => key σ H _ q
end
end Mk
set_option maxHeartbeats 8000000
/-! Mk: what reads as an expression of the language is one. -/
namespace Mk
open PySem L2
section
variable {K : PySem.W.Frag} {Cl : Nat → Option ClsI} {F H : Hp} {ρ : Slots} {σ : St} {As : Nat → AS} {G : Gc} {Z : Zs} {sc : Scope} {so : Str → Bool} {X : Cx}
theorem blk_of {N : List Str} {scope : Scope} {ow : List (Str × Nat)} (h : blkB N sc scope ow = true) : BlkOk N sc scope ow := by
  unfold blkB at h
  simp only [Bool.and_eq_true] at h
  obtain ⟨⟨⟨⟨h1, h2⟩, h3⟩, h4⟩, h5⟩ := h
  refine ⟨beq_iff_eq.mp h1, fun y hy => ?_, fun p hp => ?_, fun y hy e => ?_, fun y hy e => ?_⟩
  · exact beq_iff_eq.mp (List.all_eq_true.mp h2 y hy)
  · exact beq_iff_eq.mp (List.all_eq_true.mp h3 p hp)
  · have := List.all_eq_true.mp h4 y hy
    rw [e] at this
    simpa using this
  · have := List.all_eq_true.mp h5 y hy
    rcases e with e | e
    · rw [e] at this
      simp only [beq_self_eq_true, Bool.true_or, Bool.not_true, Bool.false_or, Bool.or_eq_true, Bool.not_eq_true'] at this
      exact this.imp (fun z => List.contains_iff_mem.mp z) fun z => by
        intro hm
        rw [List.contains_iff_mem.mpr hm] at z; cases z
    · rw [e] at this
      have e2 : (NameKind.cell == NameKind.local || NameKind.cell == NameKind.cell) = true := by decide
      rw [e2] at this
      simp only [Bool.not_true, Bool.false_or, Bool.or_eq_true, Bool.not_eq_true'] at this
      exact this.imp (fun z => List.contains_iff_mem.mp z) fun z => by
        intro hm
        rw [List.contains_iff_mem.mpr hm] at z; cases z
theorem Ok.blk (ok : Ok Z G Cl sc so X) (s : Shared) (H : Hp) (scope : Scope) (C : Addr) (cl : List (Str × Addr)) (fp : List Addr) :
    Ok Z G Cl (relS scope sc) (fun x => scope.names.lookup x == some .local || scope.names.lookup x == some .cell) (X.blk s H scope (compEnvC scope cl C X.env) fp) := by
  have hs : (X.blk s H scope (compEnvC scope cl C X.env) fp).env.scope = relS scope X.env.scope := rfl
  refine ⟨ok.calm, ok.N, ok.nd, by rw [hs, ok.sc], fun x h _ => ?_, ok.bl, ok.cs, ok.fns, ok.units, ok.cls, ok.mts⟩
  simp only [Bool.or_eq_true, beq_iff_eq] at h
  rcases h with h | h
  · right
    rw [hs]
    exact lookup_relS_keep (by decide) h
  · left
    show (scope.names.lookup x == some .cell) = true
    rw [h]; rfl
theorem view (ok : Ok Z G Cl sc so X) {ir : E} {e : Expr} (h : chkE Z ir sc so e = true) (pe : PE X e (tE X.K Cl ir.vs (ev G ir))) : PE X e (tV X.K Cl ir.vs ir.slot? (ev G ir)) := by
  cases ir with
  | var i =>
    cases e <;> first
      | (unfold chkE at h; cases h; done)
      | skip
    unfold chkE at h
    exact (ok.name h).readS
  | _ => exact pe.readE
theorem slotv (ok : Ok Z G Cl sc so X) {ir : E} {e : Expr} (h : chkE Z ir sc so e = true) : ∀ i, ir.slot? = some i → PE X e (tVar i) := fun i hi => by
  cases ir with
  | var j =>
    cases hi
    cases e <;> first
      | (unfold chkE at h; cases h; done)
      | skip
    unfold chkE at h
    exact ok.name h
  | _ => cases hi
theorem test_of {e : Expr} {env : Env} (h : plainTest e = true) : ∀ whole, isTrue e env whole = (do let v ← whole; standAt e.pos; holding [v] (truthy v)) := fun whole => by
  cases e <;> first
    | rfl
    | (cases h; done)
    | skip
  rename_i op _ _
  cases op <;> first
    | rfl
    | (cases h; done)
theorem cd_val {e : E} {Q : Bool → Hp → Prop} (h : tCd K Cl (evC G (.val e)) σ H Q) : tV K Cl e.vs e.slot? (ev G e) σ H fun x H' => ∃ k, TruV K x H' k ∧ Q k H' := by
  obtain ⟨ρ, F, As, b, ρ', e1, g, k⟩ := h
  unfold evC at e1
  obtain ⟨t, ρ1, e2, e1⟩ := bnd_some e1
  obtain ⟨b', e3, e1⟩ := obd_some e1
  cases e1
  exact ⟨ρ, F, As, t, ρ', e2, g, fun v F' As' H' st g' r _ => ⟨b, tru_run g'.same r e3, k F' As' H' (st.weak fun z => by cases z) g'⟩⟩
theorem cd_not {c : C} {Q : Bool → Hp → Prop} (h : tCd K Cl (evC G (.not c)) σ H Q) : tNot (tCd K Cl (evC G c)) σ H Q := by
  obtain ⟨ρ, F, As, b, ρ', e1, g, k⟩ := h
  unfold evC at e1
  obtain ⟨d, ρ1, e2, e1⟩ := bnd_some e1
  cases e1
  exact ⟨ρ, F, As, d, ρ', e2, g, fun F' As' H' st g' => k F' As' H' st g'⟩
theorem cd_and {a b : C} {Q : Bool → Hp → Prop} (h : tCd K Cl (evC G (.and a b)) σ H Q) : tAnd (tCd K Cl (evC G a)) (tCd K Cl (evC G b)) σ H Q := by
  obtain ⟨ρ, F, As, d, ρ', e1, g, k⟩ := h
  unfold evC at e1
  obtain ⟨c, ρ1, e2, e1⟩ := bnd_some e1
  refine ⟨ρ, F, As, c, ρ1, e2, g, fun F1 As1 H1 st1 g1 => ?_⟩
  cases c with
  | true => exact iteT ⟨ρ1, F1, As1, d, ρ', e1, g1, fun F2 As2 H2 st2 g2 => k F2 As2 H2 ((st1.trans st2).weak fun z => by cases z) g2⟩
  | false => cases e1; exact iteF (k F1 As1 H1 st1 g1)
theorem cd_or {a b : C} {Q : Bool → Hp → Prop} (h : tCd K Cl (evC G (.or a b)) σ H Q) : tOr (tCd K Cl (evC G a)) (tCd K Cl (evC G b)) σ H Q := by
  obtain ⟨ρ, F, As, d, ρ', e1, g, k⟩ := h
  unfold evC at e1
  obtain ⟨c, ρ1, e2, e1⟩ := bnd_some e1
  refine ⟨ρ, F, As, c, ρ1, e2, g, fun F1 As1 H1 st1 g1 => ?_⟩
  cases c with
  | false => exact iteF ⟨ρ1, F1, As1, d, ρ', e1, g1, fun F2 As2 H2 st2 g2 => k F2 As2 H2 ((st1.trans st2).weak fun z => by cases z) g2⟩
  | true => cases e1; exact iteT (k F1 As1 H1 st1 g1)

/-- the ways in which an argument list is evaluated -/
structure SEs (Z : Zs) (sc : Scope) (so : Str → Bool) (X : Cx) (Cl : Nat → Option ClsI) (G : Gc) (irs : Es) (es : List Expr) : Prop where
  read : PA X es (tA X.K Cl irs.vs (evs G irs))
  kept : PA X es (tAf X.K Cl (evf G irs))
  lent : ∀ mu, PA X es (tAm X.K Cl irs mu (evm G mu irs))
  kws : ∀ kws : List Keyword, kws.map (·.value) = es → PK X kws (tAf X.K Cl (evf G irs))
  fst : ∀ a r, es = a :: r → ∃ ea rest, irs = .cons ea rest ∧ PE X a (tV X.K Cl ea.vs ea.slot? (ev G ea)) ∧ chkE Z ea sc so a = true ∧
    (r = [] → rest = .nil) ∧ ∀ b r', r = b :: r' → ∃ eb rest', rest = .cons eb rest' ∧ PE X b (tV X.K Cl eb.vs eb.slot? (ev G eb)) ∧ chkE Z eb sc so b = true ∧ (r' = [] → rest' = .nil)
theorem ses_nil : SEs Z sc so X Cl G .nil [] where
  read := pa_nil.imp fun σ H Q q => evs_nil q
  kept := pa_nil.imp fun σ H Q q => evf_nil q
  lent mu := snd_m0 pa_nil
  kws k hk := by
    cases k with
    | nil => exact ⟨fun pos pins s σ H Q I q => pk_nil.run pos pins s σ H Q I (evf_nil q)⟩
    | cons _ _ => cases hk
  fst a r e := by cases e
theorem ses_cons (ok : Ok Z G Cl sc so X) {ir : E} {irs : Es} {e : Expr} {es : List Expr} (h : chkE Z ir sc so e = true) (hes : chkEs Z irs sc so es = true) (pe : PE X e (tE X.K Cl ir.vs (ev G ir))) (r : SEs Z sc so X Cl G irs es) : SEs Z sc so X Cl G (.cons ir irs) (e :: es) where
  read := (pa_cons (view ok h pe) r.read (star_of h)).imp fun σ H Q q => evs_cons q
  kept := (pa_cons pe.keptN r.kept (star_of h)).imp fun σ H Q q => evf_cons q
  lent mu := by
    cases mu with
    | nil => exact ⟨fun pos pins s σ H Q I q => by
        obtain ⟨ρ, F, As, ms, ρ', e1, g, k⟩ := q
        unfold evm at e1; cases e1⟩
    | cons c mu => exact snd_mcons pe (slotv ok h) (r.lent mu) (star_of h)
  kws k hk := by
    cases k with
    | nil => cases hk
    | cons w k =>
      obtain ⟨nm, v, p⟩ := w
      cases hk
      exact ⟨fun pos pins s σ H Q I q => (pk_cons pe.keptN (r.kws k rfl)).run pos pins s σ H Q I (evf_cons q)⟩
  fst a t e := by
    cases e
    have hn : es = [] → irs = .nil := fun e => by
      subst e
      cases irs with
      | nil => rfl
      | cons _ _ => simp only [chkEs, Bool.false_eq_true] at hes
    refine ⟨ir, irs, rfl, view ok h pe, h, hn, fun b r' e => ?_⟩
    obtain ⟨eb, rest', h1, h2, h3, h4, _⟩ := r.fst b r' e
    exact ⟨eb, rest', h1, h2, h3, h4⟩
theorem SEs.one {irs : Es} {a : Expr} (r : SEs Z sc so X Cl G irs [a]) : ∃ ea, irs = .cons ea .nil ∧ PE X a (tV X.K Cl ea.vs ea.slot? (ev G ea)) := by
  obtain ⟨ea, rest, h1, h2, _, h3, _⟩ := r.fst a [] rfl
  exact ⟨ea, by rw [h1, h3 rfl], h2⟩
theorem SEs.two {irs : Es} {a b : Expr} (r : SEs Z sc so X Cl G irs [a, b]) : ∃ ea eb, irs = .cons ea (.cons eb .nil) ∧ PE X a (tV X.K Cl ea.vs ea.slot? (ev G ea)) ∧ PE X b (tV X.K Cl eb.vs eb.slot? (ev G eb)) ∧ chkE Z eb sc so b = true := by
  obtain ⟨ea, rest, h1, h2, _, _, h3⟩ := r.fst a [b] rfl
  obtain ⟨eb, rest', h4, h5, h6, h7⟩ := h3 b [] rfl
  exact ⟨ea, eb, by rw [h1, h4, h7 rfl], h2, h5, h6⟩
theorem SEs.star {irs : Es} {a : Expr} {r : List Expr} {env : Env} (h : SEs Z sc so X Cl G irs (a :: r)) : starEach (a :: r) env = (false, eval a env) :: starEach r env := by
  obtain ⟨ea, rest, _, _, h1, _⟩ := h.fst a r rfl
  exact star_of h1

/-- a test, a test that is a chain of and, or -/
structure SC (X : Cx) (Cl : Nat → Option ClsI) (G : Gc) (c : C) (e : Expr) : Prop where
  pt : PT X e (tCd X.K Cl (evC G c))
  pw : ∀ op vs pos, e = .BoolOp op vs pos → PW X e (tCd X.K Cl (evC G c))
theorem sc_of {c : C} {e : Expr} (h : PT X e (tCd X.K Cl (evC G c))) (hn : ∀ op vs pos, e ≠ .BoolOp op vs pos) : SC X Cl G c e := ⟨h, fun op vs pos q => absurd q (hn op vs pos)⟩
theorem sc_pw {c : C} {e : Expr} (h : PW X e (tCd X.K Cl (evC G c))) : SC X Cl G c e := ⟨h.pt, fun _ _ _ _ => h⟩
/-- an expression: as a value; a comparison as a test; a comprehension that is stored -/
structure SE (X : Cx) (Cl : Nat → Option ClsI) (G : Gc) (ir : E) (e : Expr) : Prop where
  pe : PE X e (tE X.K Cl ir.vs (ev G ir))
  pt : ∀ x os ys pos, e = .Compare x os ys pos → PT X e (tCd X.K Cl (evC G (.val ir)))
  asg : ∀ el gs scope pos, e = .ListComp el gs scope pos → ∀ {k : Nat} {y : Str} {py spos : Pos}, X.N[k]? = some y → X.env.scope.names.lookup y = some .local → swapsWith e (some (.Name y py)) spos.line X.env = pure true →
      PS X (.Assign [.Name y py] e spos) (tAsg (tE X.K Cl ir.vs (ev G ir)) (gName k))
theorem se_of {ir : E} {e : Expr} (h : PE X e (tE X.K Cl ir.vs (ev G ir))) (h1 : ∀ x os ys pos, e ≠ .Compare x os ys pos) (h2 : ∀ el gs scope pos, e ≠ .ListComp el gs scope pos) : SE X Cl G ir e :=
  ⟨h, fun _ _ _ _ q => absurd q (h1 _ _ _ _), fun _ _ _ _ q => absurd q (h2 _ _ _ _)⟩
theorem se_cmp {ir : E} {e : Expr} (h : PE X e (tE X.K Cl ir.vs (ev G ir))) (h1 : PT X e (tCd X.K Cl (evC G (.val ir)))) (h2 : ∀ el gs scope pos, e ≠ .ListComp el gs scope pos) : SE X Cl G ir e :=
  ⟨h, fun _ _ _ _ _ => h1, fun _ _ _ _ q => absurd q (h2 _ _ _ _)⟩
theorem snd_compare (ok : Ok Z G Cl sc so X) {p : Prim} {es : Es} {a b : Expr} {o : CmpOp} {pos : Pos} (h : chkE Z (.op p es) sc so (.Compare a [o] [b] pos) = true)
    (rec : ∀ {xs : List Expr}, chkEs Z es sc so xs = true → SEs Z sc so X Cl G es xs) : SE X Cl G (.op p es) (.Compare a [o] [b] pos) := by
  rw [chkE, Bool.or_eq_true, Bool.or_eq_true] at h
  rcases h with (h | h) | h
  · rw [Bool.and_eq_true] at h
    obtain ⟨ea, eb, rfl, r1, r2, _⟩ := (rec h.2).two
    obtain ⟨q1, q2⟩ := snd_cmp (pos := pos) ok.units (beq_iff_eq.mp h.1) r1 r2
    exact se_cmp q1 q2 fun _ _ _ _ q => by cases q
  · have fin : ∀ {j : Nat} {p2 : Pos}, b = .Constant .none j p2 → ((o = .Is ∧ p = .isN) ∨ (o = .IsNot ∧ p = .notN)) → chkEs Z es sc so [a] = true → SE X Cl G (.op p es) (.Compare a [o] [b] pos) := fun hb ho h2 => by
      subst hb
      obtain ⟨ea, rfl, r1⟩ := (rec h2).one
      obtain ⟨q1, q2⟩ := snd_isN (pos := pos) ho r1
      exact se_cmp q1 q2 fun _ _ _ _ q => by cases q
    rw [Bool.and_eq_true] at h
    have hp := beq_iff_eq.mp h.1
    unfold noneP at hp
    split at hp
    · cases hp; exact fin rfl (.inl ⟨rfl, rfl⟩) h.2
    · cases hp; exact fin rfl (.inr ⟨rfl, rfl⟩) h.2
    · cases hp
  · simp only [Bool.and_eq_true, Bool.not_eq_true', beq_iff_eq] at h
    obtain ⟨ea, eb, rfl, r1, r2, _⟩ := (rec h.2).two
    obtain ⟨q1, q2⟩ := snd_in (pos := pos) h.1.1 h.1.2 r1 r2
    exact se_cmp q1 q2 fun _ _ _ _ q => by cases q
theorem pe_rest {op : BoolOp} {y : Expr} {r : List Expr} {pos : Pos} {t : TE} (h : PE X (restB op y r pos) t) : PE X (.BoolOp op (y :: r) pos) t := by
  cases r with
  | nil => exact pe_one h
  | cons _ _ => exact h
theorem sc_rest {c : C} {op : BoolOp} {y : Expr} {r : List Expr} {pos : Pos} (h : SC X Cl G c (restB op y r pos)) : PW X (.BoolOp op (y :: r) pos) (tCd X.K Cl (evC G c)) := by
  cases r with
  | nil =>
    cases op with
    | And => exact pw_and1 h.pt
    | Or => exact pw_or1 h.pt
  | cons _ _ => exact h.pw _ _ _ rfl
theorem fold_it {it : I} {b : Bool} {i : Expr} {env : Env} (h3 : chkI Z it sc so b i = true) : ∀ x, foldedSetIterable i env x = pure x := fun x => by
  cases i <;> first
    | rfl
    | skip
  cases b <;> cases it <;> (first | (simp only [chkI, Bool.false_eq_true] at h3; done) | (rename_i ee; rw [chkI] at h3; cases ee <;> simp only [chkE, Bool.false_eq_true] at h3))
theorem tup_it {a : E} {b : Bool} {e : Expr} (h : chkI Z (.enum a) sc so b e = true) : b = true := by
  cases b with
  | true => rfl
  | false => cases e <;> simp only [chkI, Bool.false_eq_true] at h
theorem tup_it2 {a a2 : E} {b : Bool} {e : Expr} (h : chkI Z (.zip a a2) sc so b e = true) : b = true := by
  cases b with
  | true => rfl
  | false => cases e <;> simp only [chkI, Bool.false_eq_true] at h
theorem chkI_r1 {a : E} {b : Bool} {e : Expr} (h : chkI Z (.range1 a) sc so b e = true) : ∃ f p1 x pos, e = .Call (.Name f p1) [x] [] pos ∧ (f == ("range" : Str) && glB sc f && Z.bl.contains f && chkE Z a sc so x) = true := by
  unfold chkI at h
  split at h <;> first
    | (rename_i q; cases q; exact ⟨_, _, _, _, rfl, h⟩)
    | (rename_i q _; cases q; exact ⟨_, _, _, _, rfl, h⟩)
    | (rename_i q _ _; cases q; exact ⟨_, _, _, _, rfl, h⟩)
    | (cases h; done)
    | (rename_i q; cases q; done)
    | (rename_i q _; cases q; done)
    | (rename_i q _ _; cases q; done)
    | skip
theorem chkI_r2 {a c : E} {b : Bool} {e : Expr} (h : chkI Z (.range2 a c) sc so b e = true) : ∃ f p1 x y pos, e = .Call (.Name f p1) [x, y] [] pos ∧ (f == ("range" : Str) && glB sc f && Z.bl.contains f && chkE Z a sc so x && chkE Z c sc so y) = true := by
  unfold chkI at h
  split at h <;> first
    | (rename_i q; cases q; exact ⟨_, _, _, _, _, rfl, h⟩)
    | (rename_i q _; cases q; exact ⟨_, _, _, _, _, rfl, h⟩)
    | (rename_i q _ _; cases q; exact ⟨_, _, _, _, _, rfl, h⟩)
    | (cases h; done)
    | (rename_i q; cases q; done)
    | (rename_i q _; cases q; done)
    | (rename_i q _ _; cases q; done)
    | skip
theorem chkI_r3 {a c d : E} {b : Bool} {e : Expr} (h : chkI Z (.range3 a c d) sc so b e = true) : ∃ f p1 x y z pos, e = .Call (.Name f p1) [x, y, z] [] pos ∧ (f == ("range" : Str) && glB sc f && Z.bl.contains f && chkE Z a sc so x && chkE Z c sc so y && chkE Z d sc so z) = true := by
  unfold chkI at h
  split at h <;> first
    | (rename_i q; cases q; exact ⟨_, _, _, _, _, _, rfl, h⟩)
    | (rename_i q _; cases q; exact ⟨_, _, _, _, _, _, rfl, h⟩)
    | (rename_i q _ _; cases q; exact ⟨_, _, _, _, _, _, rfl, h⟩)
    | (cases h; done)
    | (rename_i q; cases q; done)
    | (rename_i q _; cases q; done)
    | (rename_i q _ _; cases q; done)
    | skip
theorem chkI_zp3 {a c d : E} {b : Bool} {e : Expr} (h : chkI Z (.zip3 a c d) sc so b e = true) : b = true ∧ ∃ f p1 x y z pos, e = .Call (.Name f p1) [x, y, z] [] pos ∧ (f == ("zip" : Str) && glB sc f && Z.bl.contains f && chkE Z a sc so x && chkE Z c sc so y && chkE Z d sc so z) = true := by
  unfold chkI at h
  split at h <;> first
    | (rename_i q; cases q; exact ⟨rfl, _, _, _, _, _, _, rfl, h⟩)
    | (rename_i q _; cases q; exact ⟨rfl, _, _, _, _, _, _, rfl, h⟩)
    | (rename_i q _ _; cases q; exact ⟨rfl, _, _, _, _, _, _, rfl, h⟩)
    | (cases h; done)
    | (rename_i q; cases q; done)
    | (rename_i q _; cases q; done)
    | (rename_i q _ _; cases q; done)
    | skip
theorem chkI_en {a : E} {b : Bool} {e : Expr} (h : chkI Z (.enum a) sc so b e = true) : b = true ∧ ∃ f p1 x pos, e = .Call (.Name f p1) [x] [] pos ∧ (f == ("enumerate" : Str) && glB sc f && Z.bl.contains f && chkE Z a sc so x) = true := by
  unfold chkI at h
  split at h <;> first
    | (rename_i q; cases q; exact ⟨rfl, _, _, _, _, rfl, h⟩)
    | (rename_i q _; cases q; exact ⟨rfl, _, _, _, _, rfl, h⟩)
    | (rename_i q _ _; cases q; exact ⟨rfl, _, _, _, _, rfl, h⟩)
    | (cases h; done)
    | (rename_i q; cases q; done)
    | (rename_i q _; cases q; done)
    | (rename_i q _ _; cases q; done)
    | skip
theorem chkI_zp {a c : E} {b : Bool} {e : Expr} (h : chkI Z (.zip a c) sc so b e = true) : b = true ∧ ∃ f p1 x y pos, e = .Call (.Name f p1) [x, y] [] pos ∧ (f == ("zip" : Str) && glB sc f && Z.bl.contains f && chkE Z a sc so x && chkE Z c sc so y) = true := by
  unfold chkI at h
  split at h <;> first
    | (rename_i q; cases q; exact ⟨rfl, _, _, _, _, _, rfl, h⟩)
    | (rename_i q _; cases q; exact ⟨rfl, _, _, _, _, _, rfl, h⟩)
    | (rename_i q _ _; cases q; exact ⟨rfl, _, _, _, _, _, rfl, h⟩)
    | (cases h; done)
    | (rename_i q; cases q; done)
    | (rename_i q _; cases q; done)
    | (rename_i q _ _; cases q; done)
    | skip
theorem chkE_comp2 {own own2 : List Nat} {tg tg2 : Tg} {it it2 : I} {cs cs2 : Cs} {elt : E} {e : Expr} {gens : List Comprehension} {scope : Scope} {pos : Pos} (h : chkE Z (.comp2 own own2 tg it cs tg2 it2 cs2 elt) sc so (.ListComp e gens scope pos) = true) :
    ∃ t i ifs t2 i2 ifs2, gens = [⟨t, i, ifs, 0⟩, ⟨t2, i2, ifs2, 0⟩] := by
  unfold chkE at h
  split at h <;> first
    | (cases h; done)
    | skip
  all_goals first
    | contradiction
    | exact ⟨_, _, _, _, _, _, rfl⟩
    | skip
  all_goals (rename_i q1 q2 q3 q4; first | (cases q1; done) | (cases q4; exact ⟨_, _, _, _, _, _, rfl⟩))
theorem chkE_rgl {tup : Bool} {a : E} {e : Expr} (h : chkE Z (.rgl tup a) sc so e = true) : ∃ l p1 r p2 x p3 pos, e = .Call (.Name l p1) [.Call (.Name r p2) [x] [] p3] [] pos ∧
    (l == sqN tup && glB sc l && Z.bl.contains l && r == ("range" : Str) && glB sc r && Z.bl.contains r && chkE Z a sc so x) = true := by
  unfold chkE at h
  split at h <;> first
    | (cases h; done)
    | contradiction
    | skip
  all_goals (rename_i q1; first | (cases q1; done) | (cases q1; exact ⟨_, _, _, _, _, _, _, rfl, h⟩))
theorem chkE_rgl2 {tup : Bool} {a b : E} {e : Expr} (h : chkE Z (.rgl2 tup a b) sc so e = true) : ∃ l p1 r p2 x y p3 pos, e = .Call (.Name l p1) [.Call (.Name r p2) [x, y] [] p3] [] pos ∧
    (l == sqN tup && glB sc l && Z.bl.contains l && r == ("range" : Str) && glB sc r && Z.bl.contains r && chkE Z a sc so x && chkE Z b sc so y) = true := by
  unfold chkE at h
  split at h <;> first
    | (cases h; done)
    | contradiction
    | skip
  all_goals (rename_i q1; first | (cases q1; done) | (cases q1; exact ⟨_, _, _, _, _, _, _, _, rfl, h⟩))
theorem chkE_pop0 {i : Nat} {e : Expr} (h : chkE Z (.pop0 i) sc so e = true) : ∃ x px m ap pos, e = .Call (.Attribute (.Name x px) m ap) [] [] pos ∧ (varB Z sc i x && m == ("pop" : Str) && ap.endLine == pos.line) = true := by
  unfold chkE at h
  split at h <;> first
    | (cases h; done)
    | contradiction
    | skip
  all_goals (rename_i q1; first | (cases q1; done) | (cases q1; exact ⟨_, _, _, _, _, rfl, h⟩))
theorem chkE_fld {i f : Nat} {cn : Str} {e : Expr} (h : chkE Z (.fld i cn f) sc so e = true) : ∃ x px a pos, e = .Attribute (.Name x px) a pos ∧ (varB Z sc i x && fldB Z cn f a) = true := by
  unfold chkE at h
  split at h <;> first
    | (cases h; done)
    | contradiction
    | skip
  all_goals (rename_i q1; first | (cases q1; done) | (cases q1; exact ⟨_, _, _, _, rfl, h⟩))
theorem chkE_call0 {j : Str} {e : Expr} (h : chkE Z (.call0 j) sc so e = true) : ∃ x p1 pos, e = .Call (.Name x p1) [] [] pos ∧ (fnB Z j x && glB sc x) = true := by
  unfold chkE at h
  split at h <;> first
    | (cases h; done)
    | contradiction
    | skip
  all_goals (rename_i q1; first | (cases q1; done) | (cases q1; exact ⟨_, _, _, rfl, h⟩))
theorem chkE_sd {ir : E} {e : Expr} (h : chkE Z (.sd ir) sc so e = true) : ∃ x p1 d pos, e = .Call (.Name x p1) [d] [] pos ∧ (x == ("sorted" : Str) && glB sc x && Z.bl.contains x && isC1 ir && (match asLc d with
    | some l => chkE Z ir sc so l
    | none => false)) = true := by
  unfold chkE at h
  split at h <;> first
    | (cases h; done)
    | contradiction
    | skip
  all_goals (rename_i q1; first | (cases q1; done) | (cases q1; exact ⟨_, _, _, _, rfl, h⟩))
theorem sd_no {ir : E} {e : Expr} (h : chkE Z (.sd ir) sc so e = true) (hn : ¬ isC1 ir = true) : False := by
  obtain ⟨x, p1, d, pos, e1, h'⟩ := chkE_sd h
  simp only [Bool.and_eq_true] at h'
  exact hn h'.1.2
theorem asLc_of {d l : Expr} (h : asLc d = some l) : ∃ k j p gens scope pos, d = .DictComp k (.Constant (.bool true) j p) gens scope pos ∧ l = .ListComp k gens scope pos := by
  unfold asLc at h
  split at h
  · cases h; exact ⟨_, _, _, _, _, _, rfl, rfl⟩
  · cases h
theorem chkE_comp1 {own : List Nat} {tg : Tg} {it : I} {cs : Cs} {elt : E} {e : Expr} {gens : List Comprehension} {scope : Scope} {pos : Pos} (h : chkE Z (.comp own tg it cs elt) sc so (.ListComp e gens scope pos) = true) : ∃ t i ifs, gens = [⟨t, i, ifs, 0⟩] := by
  unfold chkE at h
  split at h <;> first
    | (cases h; done)
    | skip
  all_goals first
    | contradiction
    | exact ⟨_, _, _, rfl⟩
    | skip
  all_goals (rename_i q1 q2 q3 q4; first | (cases q1; done) | (cases q4; exact ⟨_, _, _, rfl⟩))
theorem chkE_bor {ir : E} {e : Expr} (h : chkE Z (.bor ir) sc so e = true) : ∃ f args kws pos, e = .Call f args kws pos ∧ chkE Z ir sc so (.Call f args kws pos) = true := by
  unfold chkE at h
  split at h <;> first
    | (cases h; done)
    | contradiction
    | skip
  all_goals (rename_i q1; first | (cases q1; done) | (cases q1; exact ⟨_, _, _, _, rfl, h⟩))
theorem chkE_fidx {i f : Nat} {cn : Str} {eb : E} {e : Expr} (h : chkE Z (.fidx i cn f eb) sc so e = true) : ∃ x px a p2 b pos, e = .Subscript (.Attribute (.Name x px) a p2) b pos ∧ (varB Z sc i x && fldB Z cn f a && !isSlice b && chkE Z eb sc so b) = true := by
  unfold chkE at h
  split at h <;> first
    | (cases h; done)
    | contradiction
    | skip
  all_goals (rename_i q1; first | (cases q1; done) | (cases q1; exact ⟨_, _, _, _, _, _, rfl, h⟩))
theorem chkE_flen {i f : Nat} {cn : Str} {e : Expr} (h : chkE Z (.flen i cn f) sc so e = true) : ∃ l p1 x px a p2 pos, e = .Call (.Name l p1) [.Attribute (.Name x px) a p2] [] pos ∧ (l == ("len" : Str) && glB sc l && Z.bl.contains l && varB Z sc i x && fldB Z cn f a) = true := by
  unfold chkE at h
  split at h <;> first
    | (cases h; done)
    | contradiction
    | skip
  all_goals (rename_i q1; first | (cases q1; done) | (cases q1; exact ⟨_, _, _, _, _, _, _, rfl, h⟩))
theorem chkE_new {j cn : Str} {n : Nat} {es : Es} {e : Expr} (h : chkE Z (.new j cn n es) sc so e = true) : ∃ x p1 a args pos, e = .Call (.Name x p1) (a :: args) [] pos ∧ (x == cn && glB sc x && newB Z j cn n && chkEs Z es sc so (a :: args)) = true := by
  unfold chkE at h
  split at h <;> first
    | (cases h; done)
    | contradiction
    | skip
  all_goals (rename_i q1; first | (cases q1; done) | (cases q1; exact ⟨_, _, _, _, _, rfl, h⟩))
theorem chkE_meth {j cn : Str} {es : Es} {e : Expr} (h : chkE Z (.meth j cn es) sc so e = true) : ∃ o m ap args pos, e = .Call (.Attribute o m ap) args [] pos ∧ (mthB Z j cn m && recvOk o && ap.endLine == pos.line && decide (args.length < 29) && chkEs Z es sc so (o :: args)) = true := by
  unfold chkE at h
  split at h <;> first
    | (cases h; done)
    | contradiction
    | skip
  all_goals (rename_i q1; first | (cases q1; done) | (cases q1; exact ⟨_, _, _, _, _, rfl, h⟩))
theorem chkE_methp {j cn : Str} {es : Es} {e : Expr} (h : chkE Z (.methp j cn es) sc so e = true) : ∃ o m ap args pos, e = .Call (.Attribute o m ap) args [] pos ∧ (mthB Z j cn m && recvOk o && ap.endLine == pos.line && decide (args.length < 29) && chkEs Z es sc so (o :: args)) = true := by
  unfold chkE at h
  split at h <;> first
    | (cases h; done)
    | contradiction
    | skip
  all_goals (rename_i q1; first | (cases q1; done) | (cases q1; exact ⟨_, _, _, _, _, rfl, h⟩))
mutual
theorem sndE : ∀ (ir : E) {sc : Scope} {so : Str → Bool} {X : Cx} {e : Expr}, chkE Z ir sc so e = true → Ok Z G Cl sc so X → SE X Cl G ir e
  | .k t, sc, so, X, e, h, ok => by
    cases e <;> first
      | (simp only [chkE, Bool.false_eq_true] at h; done)
      | (rw [chkE] at h; exact se_of (snd_k t h) (fun _ _ _ _ q => by cases q) (fun _ _ _ _ q => by cases q))
  | .g j, sc, so, X, e, h, ok => by
    cases e <;> first
      | (simp only [chkE, Bool.false_eq_true] at h; done)
      | (rw [chkE] at h; exact se_of (snd_g ok h) (fun _ _ _ _ q => by cases q) (fun _ _ _ _ q => by cases q))
  | .var i, sc, so, X, e, h, ok => by
    cases e <;> first
      | (simp only [chkE, Bool.false_eq_true] at h; done)
      | (rw [chkE] at h; exact se_of (snd_var (ok.name h)) (fun _ _ _ _ q => by cases q) (fun _ _ _ _ q => by cases q))
  | .op p es, sc, so, X, e, h, ok => by
    have r2 : ∀ {a b : Expr}, chkEs Z es sc so [a, b] = true → ∃ ea eb, es = .cons ea (.cons eb .nil) ∧ PE X a (tV X.K Cl ea.vs ea.slot? (ev G ea)) ∧ PE X b (tV X.K Cl eb.vs eb.slot? (ev G eb)) ∧ chkE Z eb sc so b = true := fun {a b} q => (sndEs es q ok).two
    have r1 : ∀ {a : Expr}, chkEs Z es sc so [a] = true → ∃ ea, es = .cons ea .nil ∧ PE X a (tV X.K Cl ea.vs ea.slot? (ev G ea)) := fun {a} q => (sndEs es q ok).one
    cases e <;> first
      | (simp only [chkE, Bool.false_eq_true] at h; done)
      | skip
    · rename_i a o b pos
      rw [chkE] at h
      rw [Bool.and_eq_true] at h
      obtain ⟨ea, eb, rfl, pa, pb, _⟩ := r2 h.2
      have hp := beq_iff_eq.mp h.1
      cases o <;> first
        | (cases hp; done)
        | (cases hp; exact se_of (snd_bin q_add pa pb) (fun _ _ _ _ q => by cases q) (fun _ _ _ _ q => by cases q))
        | (cases hp; exact se_of (snd_bin q_sub pa pb) (fun _ _ _ _ q => by cases q) (fun _ _ _ _ q => by cases q))
        | (cases hp; exact se_of (snd_bin q_mul pa pb) (fun _ _ _ _ q => by cases q) (fun _ _ _ _ q => by cases q))
        | (cases hp; exact se_of (snd_bin q_fdiv pa pb) (fun _ _ _ _ q => by cases q) (fun _ _ _ _ q => by cases q))
        | (cases hp; exact se_of (snd_bin q_mod pa pb) (fun _ _ _ _ q => by cases q) (fun _ _ _ _ q => by cases q))
        | (cases hp; exact se_of (snd_bin q_pow pa pb) (fun _ _ _ _ q => by cases q) (fun _ _ _ _ q => by cases q))
    · rename_i o a pos
      cases o <;> first
        | (simp only [chkE, Bool.false_eq_true] at h; done)
        | skip
      rw [chkE] at h
      rw [Bool.and_eq_true] at h
      obtain ⟨ea, rfl, pa⟩ := r1 h.2
      have hp := beq_iff_eq.mp h.1
      subst hp
      exact se_of (snd_neg pa) (fun _ _ _ _ q => by cases q) (fun _ _ _ _ q => by cases q)
    · rename_i x os ys pos
      match os, ys, h with
      | [o], [b], h => exact snd_compare ok h fun q => sndEs es q ok
      | [], _, h => simp only [chkE, Bool.false_eq_true] at h
      | _ :: _ :: _, _, h => simp only [chkE, Bool.false_eq_true] at h
      | [_], [], h => simp only [chkE, Bool.false_eq_true] at h
      | [_], _ :: _ :: _, h => simp only [chkE, Bool.false_eq_true] at h
    · rename_i f args kws pos
      cases f <;> first
        | (simp only [chkE, Bool.false_eq_true] at h; done)
        | skip
      cases kws <;> first
        | (simp only [chkE, Bool.false_eq_true] at h; done)
        | skip
      rw [chkE] at h
      simp only [Bool.and_eq_true, beq_iff_eq] at h
      exact se_of (snd_blt ok h.1.1.1 h.1.1.2 h.1.2 (sndEs es h.2 ok).read h.2) (fun _ _ _ _ q => by cases q) (fun _ _ _ _ q => by cases q)
    · rename_i a b pos
      rw [chkE] at h
      rw [Bool.or_eq_true] at h
      rcases h with h | h
      · simp only [Bool.and_eq_true, beq_iff_eq] at h
        obtain ⟨ea, eb, rfl, pa, pb, hb⟩ := r2 h.2
        obtain ⟨rfl, _⟩ := h.1
        exact se_of (snd_idx (ix_of hb) pa pb) (fun _ _ _ _ q => by cases q) (fun _ _ _ _ q => by cases q)
      · simp only [Bool.and_eq_true, beq_iff_eq] at h
        obtain ⟨ea, rfl, pa⟩ := r1 h.2
        obtain ⟨rfl, hb⟩ := h.1
        exact se_of (snd_rev hb pa) (fun _ _ _ _ q => by cases q) (fun _ _ _ _ q => by cases q)
  | .sl x lo hi, sc, so, X, e, h, ok => by
    cases e <;> first
      | (simp only [chkE, Bool.false_eq_true] at h; done)
      | skip
    rename_i a b pos
    cases b <;> first
      | (simp only [chkE, Bool.false_eq_true] at h; done)
      | skip
    rename_i l u st p2
    cases st <;> first
      | (simp only [chkE, Bool.false_eq_true] at h; done)
      | skip
    rw [chkE] at h
    simp only [Bool.and_eq_true] at h
    exact se_of (snd_sl (view ok h.1.1 (sndE x h.1.1 ok).pe) (sndO lo h.1.2 ok) (sndO hi h.2 ok)) (fun _ _ _ _ q => by cases q) (fun _ _ _ _ q => by cases q)
  | .tup es, sc, so, X, e, h, ok => by
    cases e <;> first
      | (simp only [chkE, Bool.false_eq_true] at h; done)
      | (rw [chkE] at h; exact se_of (snd_tup (sndEs es h ok).kept) (fun _ _ _ _ q => by cases q) (fun _ _ _ _ q => by cases q))
  | .lst es, sc, so, X, e, h, ok => by
    cases e <;> first
      | (simp only [chkE, Bool.false_eq_true] at h; done)
      | skip
    rw [chkE] at h
    cases es with
    | nil =>
      rename_i elts pos
      cases elts with
      | nil => exact se_of snd_lst0 (fun _ _ _ _ q => by cases q) (fun _ _ _ _ q => by cases q)
      | cons _ _ => unfold chkEs at h; cases h
    | cons e1 es1 => exact se_of (snd_lst (sndEs (.cons e1 es1) h ok).kept) (fun _ _ _ _ q => by cases q) (fun _ _ _ _ q => by cases q)
  | .ite c a b, sc, so, X, e, h, ok => by
    cases e <;> first
      | (simp only [chkE, Bool.false_eq_true] at h; done)
      | skip
    rw [chkE] at h
    simp only [Bool.and_eq_true] at h
    exact se_of (snd_ite (sndC c h.1.1 ok).pt (sndE a h.1.2 ok).pe (sndE b h.2 ok).pe) (fun _ _ _ _ q => by cases q) (fun _ _ _ _ q => by cases q)
  | .and a b, sc, so, X, e, h, ok => by
    cases e <;> first
      | (simp only [chkE, Bool.false_eq_true] at h; done)
      | skip
    rename_i op vs pos
    cases op <;> first
      | (simp only [chkE, Bool.false_eq_true] at h; done)
      | skip
    match vs, h with
    | [], h => simp only [chkE, Bool.false_eq_true] at h
    | [_], h => simp only [chkE, Bool.false_eq_true] at h
    | x :: y :: r, h =>
      rw [chkE, Bool.and_eq_true] at h
      exact se_of (snd_and (sndE a h.1 ok).pe (pe_rest (sndE b h.2 ok).pe)) (fun _ _ _ _ q => by cases q) (fun _ _ _ _ q => by cases q)
  | .or a b, sc, so, X, e, h, ok => by
    cases e <;> first
      | (simp only [chkE, Bool.false_eq_true] at h; done)
      | skip
    rename_i op vs pos
    cases op <;> first
      | (simp only [chkE, Bool.false_eq_true] at h; done)
      | skip
    match vs, h with
    | [], h => simp only [chkE, Bool.false_eq_true] at h
    | [_], h => simp only [chkE, Bool.false_eq_true] at h
    | x :: y :: r, h =>
      rw [chkE, Bool.and_eq_true] at h
      exact se_of (snd_or (sndE a h.1 ok).pe (pe_rest (sndE b h.2 ok).pe)) (fun _ _ _ _ q => by cases q) (fun _ _ _ _ q => by cases q)
  | .not a, sc, so, X, e, h, ok => by
    cases e <;> first
      | (simp only [chkE, Bool.false_eq_true] at h; done)
      | skip
    rename_i op x pos
    cases op <;> first
      | (simp only [chkE, Bool.false_eq_true] at h; done)
      | skip
    rw [chkE] at h
    exact se_of (snd_not (view ok h (sndE a h ok).pe)) (fun _ _ _ _ q => by cases q) (fun _ _ _ _ q => by cases q)
  | .chain p q a b c, sc, so, X, e, h, ok => by
    cases e <;> first
      | (simp only [chkE, Bool.false_eq_true] at h; done)
      | skip
    rename_i x os ys pos
    match os, ys, h with
    | [o, o'], [y, z], h =>
      rw [chkE] at h
      simp only [Bool.and_eq_true, beq_iff_eq] at h
      obtain ⟨⟨⟨⟨h1, h2⟩, h3⟩, h4⟩, h5⟩ := h
      obtain ⟨q1, q2⟩ := snd_chain (pos := pos) ok.units h1 h2 (sndE a h3 ok).pe (sndE b h4 ok).pe (sndE c h5 ok).pe
      exact se_cmp q1 q2 fun _ _ _ _ q => by cases q
    | [], _, h => simp only [chkE, Bool.false_eq_true] at h
    | [_], _, h => simp only [chkE, Bool.false_eq_true] at h
    | _ :: _ :: _ :: _, _, h => simp only [chkE, Bool.false_eq_true] at h
    | [_, _], [], h => simp only [chkE, Bool.false_eq_true] at h
    | [_, _], [_], h => simp only [chkE, Bool.false_eq_true] at h
    | [_, _], _ :: _ :: _ :: _, h => simp only [chkE, Bool.false_eq_true] at h
  | .isi a cs many, sc, so, X, e, h, ok => by
    cases e <;> first
      | (simp only [chkE, Bool.false_eq_true] at h; done)
      | skip
    rename_i f args kws pos
    cases f <;> first
      | (simp only [chkE, Bool.false_eq_true] at h; done)
      | skip
    cases kws <;> first
      | (simp only [chkE, Bool.false_eq_true] at h; done)
      | skip
    match args, h with
    | [], h => simp only [chkE, Bool.false_eq_true] at h
    | [_], h => simp only [chkE, Bool.false_eq_true] at h
    | _ :: _ :: _ :: _, h => simp only [chkE, Bool.false_eq_true] at h
    | [x, c], h =>
      rw [chkE] at h
      simp only [Bool.and_eq_true, beq_iff_eq] at h
      refine se_of (snd_isi ok h.1.1.1.1 h.1.1.1.2 h.1.1.2 (view ok h.1.2 (sndE a h.1.2 ok).pe) (fun es env => star_of h.1.2) ?_) (fun _ _ _ _ q => by cases q) (fun _ _ _ _ q => by cases q)
      have h2 := h.2
      unfold isiB at h2
      split at h2
      · exact .inl ⟨rfl, _, _, rfl, h2⟩
      · simp only [Bool.and_eq_true, decide_eq_true_eq] at h2
        exact .inr ⟨rfl, _, _, _, rfl, h2.1, h2.2⟩
      · cases h2
  | .call j es, sc, so, X, e, h, ok => by
    cases e <;> first
      | (simp only [chkE, Bool.false_eq_true] at h; done)
      | skip
    rename_i f args kws pos
    cases f <;> first
      | (simp only [chkE, Bool.false_eq_true] at h; done)
      | skip
    cases kws <;> first
      | (simp only [chkE, Bool.false_eq_true] at h; done)
      | skip
    cases args <;> first
      | (simp only [chkE, Bool.false_eq_true] at h; done)
      | skip
    rw [chkE] at h
    simp only [Bool.and_eq_true] at h
    have h1 := h.1.1
    unfold fnB at h1
    rw [Bool.and_eq_true, beq_iff_eq] at h1
    obtain ⟨hj, h1⟩ := h1
    cases hI : Z.fn j with
    | none => rw [hI] at h1; cases h1
    | some I =>
      have r := sndEs es h.2 ok
      have hpl : ∀ pos, (backTo pos (starEach _ X.env)).any (·.1) = false := fun pos => by
        have hc := h.2
        cases es with
        | nil => simp only [chkEs, Bool.false_eq_true] at hc
        | cons _ _ => rw [chkEs, Bool.and_eq_true] at hc; exact plain_of (pos := pos) (env := X.env) hc.2
      exact se_of (snd_call ok hI ((Zs.fn_name hI).trans hj) h.1.2 r.lent r.star (hpl _)) (fun _ _ _ _ q => by cases q) (fun _ _ _ _ q => by cases q)
  | .callp j es, sc, so, X, e, h, ok => by
    cases e <;> first
      | (simp only [chkE, Bool.false_eq_true] at h; done)
      | skip
    rename_i f args kws pos
    cases f <;> first
      | (simp only [chkE, Bool.false_eq_true] at h; done)
      | skip
    cases kws <;> first
      | (simp only [chkE, Bool.false_eq_true] at h; done)
      | skip
    cases args <;> first
      | (simp only [chkE, Bool.false_eq_true] at h; done)
      | skip
    rw [chkE] at h
    simp only [Bool.and_eq_true] at h
    have h1 := h.1.1
    unfold fnB at h1
    rw [Bool.and_eq_true, beq_iff_eq] at h1
    obtain ⟨hj, h1⟩ := h1
    cases hI : Z.fn j with
    | none => rw [hI] at h1; cases h1
    | some I =>
      have r := sndEs es h.2 ok
      have hpl : ∀ pos, (backTo pos (starEach _ X.env)).any (·.1) = false := fun pos => by
        have hc := h.2
        cases es with
        | nil => simp only [chkEs, Bool.false_eq_true] at hc
        | cons _ _ => rw [chkEs, Bool.and_eq_true] at hc; exact plain_of (pos := pos) (env := X.env) hc.2
      exact se_of ((snd_call ok hI ((Zs.fn_name hI).trans hj) h.1.2 r.lent r.star (hpl _)).imp fun σ H Q hh => by
        obtain ⟨ρ, F, As, m, ρ', e, g, k⟩ := hh
        exact ⟨ρ, F, As, m, ρ', callp_call e, g, k⟩) (fun _ _ _ _ q => by cases q) (fun _ _ _ _ q => by cases q)
  | .callk j es perm, sc, so, X, e, h, ok => by
    cases e <;> first
      | (simp only [chkE, Bool.false_eq_true] at h; done)
      | skip
    rename_i f args kws pos
    cases f <;> first
      | (simp only [chkE, Bool.false_eq_true] at h; done)
      | skip
    cases args <;> first
      | (simp only [chkE, Bool.false_eq_true] at h; done)
      | skip
    rw [chkE] at h
    simp only [Bool.and_eq_true] at h
    have h1 := h.1.1.1
    unfold fnKB at h1
    split at h1
    · rename_i I ks hI hk
      rw [Bool.and_eq_true] at h1
      refine se_of (snd_callk ok hI ((Zs.fn_name hI).trans (beq_iff_eq.mp h1.1)) h.1.1.2 hk (List.contains_iff_mem.mp h1.2) ?_ ((sndEs es h.1.2 ok).kws kws rfl)) (fun _ _ _ _ q => by cases q) (fun _ _ _ _ q => by cases q)
      rw [chk_len h.1.2, List.length_map, kw_len hk]
    · cases h1
  | .comp own tg it cs elt, sc, so, X, e, h, ok => by
    cases e <;> first
      | (simp only [chkE, Bool.false_eq_true] at h; done)
      | skip
    rename_i e gens scope pos
    have hg : ∃ t i ifs, gens = [⟨t, i, ifs, 0⟩] := by
      unfold chkE at h
      split at h <;> first
        | (cases h; done)
        | skip
      all_goals first
        | contradiction
        | exact ⟨_, _, _, rfl⟩
        | skip
      all_goals (rename_i q1 q2 q3 q4; first | (cases q1; done) | (cases q4; exact ⟨_, _, _, rfl⟩))
    obtain ⟨t, i, ifs, rfl⟩ := hg
    rw [chkE] at h
    simp only [Bool.and_eq_true] at h
    obtain ⟨⟨⟨⟨⟨⟨h1, h2⟩, h3⟩, h4⟩, h5⟩, h6⟩, h7⟩ := h
    have okB := fun s H C cl fp => ok.blk s H scope C cl fp
    have fold : ∀ x, foldedSetIterable i X.env x = pure x := fun x => fold_it h3 x
    have r := snd_comp (e := e) (pos := pos) (elt := elt) (cs := cs) ok.calm (by rw [ok.N]; exact ok.nd) (beq_iff_eq.mp h1) (sndI it h3 ok) (by rw [ok.N, ok.sc]; exact blk_of h2) (fun j hj => List.contains_iff_mem.mp (List.all_eq_true.mp h5 j hj))
      (fun s H C cl fp => snd_tg (okB s H C cl fp).N (okB s H C cl fp).nd (okB s H C cl fp).sc (okB s H C cl fp).st (okB s H C cl fp).calm G.pin h4) (fun s H C cl fp => sndCs cs h6 (okB s H C cl fp)) (fun s H C cl fp => (sndE elt h7 (okB s H C cl fp)).pe) fold
    exact SE.mk r.1 (fun _ _ _ _ q => by cases q) (fun _ _ _ _ _ => r.2)
  | .comp2 own own2 tg it cs tg2 it2 cs2 elt, sc, so, X, e, h, ok => by
    cases e <;> first
      | (simp only [chkE, Bool.false_eq_true] at h; done)
      | skip
    rename_i e gens scope pos
    obtain ⟨t, i, ifs, t2, i2, ifs2, rfl⟩ := chkE_comp2 h
    rw [chkE] at h
    simp only [Bool.and_eq_true] at h
    obtain ⟨⟨⟨⟨⟨⟨⟨⟨⟨⟨⟨h1, h2⟩, h3⟩, h4⟩, h5⟩, h6⟩, h7⟩, h8⟩, h9⟩, h10⟩, h11⟩, h12⟩ := h
    have okB := fun s H C cl fp => ok.blk s H scope C cl fp
    have fold : ∀ x, foldedSetIterable i X.env x = pure x := fun x => fold_it h3 x
    have fold2 : ∀ env x, foldedSetIterable i2 env x = pure x := fun env x => fold_it h8 x
    have r := snd_comp2 (e := e) (pos := pos) (elt := elt) (cs := cs) (cs2 := cs2) ok.calm (by rw [ok.N]; exact ok.nd) (beq_iff_eq.mp h1) (fun j hj => List.contains_iff_mem.mp (List.all_eq_true.mp h7 j hj)) (sndI it h3 ok) (by rw [ok.N, ok.sc]; exact blk_of h2)
      (fun j hj => List.contains_iff_mem.mp (List.all_eq_true.mp h5 j hj)) (fun j hj => List.contains_iff_mem.mp (List.all_eq_true.mp h10 j hj))
      (fun s H C cl fp => snd_tg (okB s H C cl fp).N (okB s H C cl fp).nd (okB s H C cl fp).sc (okB s H C cl fp).st (okB s H C cl fp).calm G.pin h4) (fun s H C cl fp => sndCs cs h6 (okB s H C cl fp))
      (fun s H C cl fp => sndI it2 h8 (okB s H C cl fp)) (fun s H C cl fp => snd_tg (okB s H C cl fp).N (okB s H C cl fp).nd (okB s H C cl fp).sc (okB s H C cl fp).st (okB s H C cl fp).calm G.pin h9) (fun s H C cl fp => sndCs cs2 h11 (okB s H C cl fp))
      (fun s H C cl fp => (sndE elt h12 (okB s H C cl fp)).pe) fold fold2
    exact SE.mk r.1 (fun _ _ _ _ q => by cases q) (fun _ _ _ _ _ => r.2)
  | .pop i a, sc, so, X, e, h, ok => by
    cases e <;> first
      | (simp only [chkE, Bool.false_eq_true] at h; done)
      | skip
    rename_i f args kws pos
    cases f <;> first
      | (simp only [chkE, Bool.false_eq_true] at h; done)
      | skip
    rename_i o m ap
    cases o <;> first
      | (simp only [chkE, Bool.false_eq_true] at h; done)
      | skip
    cases kws <;> first
      | (simp only [chkE, Bool.false_eq_true] at h; done)
      | skip
    match args, h with
    | [], h => simp only [chkE, Bool.false_eq_true] at h
    | _ :: _ :: _, h => simp only [chkE, Bool.false_eq_true] at h
    | [x], h =>
      rw [chkE] at h
      simp only [Bool.and_eq_true] at h
      have hm := beq_iff_eq.mp h.1.1.2
      subst hm
      exact se_of (snd_pop (ok.name h.1.1.1) (sndE a h.2 ok).pe (star_of h.2) h.1.2) (fun _ _ _ _ q => by cases q) (fun _ _ _ _ q => by cases q)
  | .rgl tup a, sc, so, X, e, h, ok => by
    obtain ⟨l, p1, r, p2, x, p3, pos, e1, h'⟩ := chkE_rgl h
    subst e1
    simp only [Bool.and_eq_true, beq_iff_eq] at h'
    obtain ⟨⟨⟨⟨⟨⟨h1, h2⟩, h3⟩, h4⟩, h5⟩, h6⟩, h7⟩ := h'
    exact se_of (snd_rgl ok h1 h2 h3 h4 h5 h6 (sndE a h7 ok).pe (fun es => star_of h7)) (fun _ _ _ _ q => by cases q) (fun _ _ _ _ q => by cases q)
  | .rgl2 tup a b, sc, so, X, e, h, ok => by
    obtain ⟨l, p1, r, p2, x, y, p3, pos, e1, h'⟩ := chkE_rgl2 h
    subst e1
    simp only [Bool.and_eq_true, beq_iff_eq] at h'
    obtain ⟨⟨⟨⟨⟨⟨⟨h1, h2⟩, h3⟩, h4⟩, h5⟩, h6⟩, h7⟩, h8⟩ := h'
    exact se_of (snd_rgl2 ok h1 h2 h3 h4 h5 h6 (sndE a h7 ok).pe (sndE b h8 ok).pe (fun es => star_of h7) (fun es => star_of h8)) (fun _ _ _ _ q => by cases q) (fun _ _ _ _ q => by cases q)
  | .pop0 i, sc, so, X, e, h, ok => by
    obtain ⟨x, px, m, ap, pos, e1, h'⟩ := chkE_pop0 h
    subst e1
    simp only [Bool.and_eq_true] at h'
    have hm := beq_iff_eq.mp h'.1.2
    subst hm
    exact se_of (snd_pop0 (ok.name h'.1.1) h'.2) (fun _ _ _ _ q => by cases q) (fun _ _ _ _ q => by cases q)
  | .fld i cn f, sc, so, X, e, h, ok => by
    obtain ⟨x, px, a, pos, e1, h'⟩ := chkE_fld h
    subst e1
    rw [Bool.and_eq_true] at h'
    exact se_of (snd_fld ok h'.1 h'.2) (fun _ _ _ _ q => by cases q) (fun _ _ _ _ q => by cases q)
  | .fidx i cn f eb, sc, so, X, e, h, ok => by
    obtain ⟨x, px, a, p2, b, pos, e1, h'⟩ := chkE_fidx h
    subst e1
    simp only [Bool.and_eq_true] at h'
    exact se_of (snd_fidx ok h'.1.1.1 h'.1.1.2 (ix_of h'.2) (view ok h'.2 (sndE eb h'.2 ok).pe)) (fun _ _ _ _ q => by cases q) (fun _ _ _ _ q => by cases q)
  | .flen i cn f, sc, so, X, e, h, ok => by
    obtain ⟨l, p1, x, px, a, p2, pos, e1, h'⟩ := chkE_flen h
    subst e1
    simp only [Bool.and_eq_true, beq_iff_eq] at h'
    exact se_of (snd_flen ok h'.1.1.1.1 h'.1.1.1.2 h'.1.1.2 h'.1.2 h'.2) (fun _ _ _ _ q => by cases q) (fun _ _ _ _ q => by cases q)
  | .new j cn n es, sc, so, X, e, h, ok => by
    obtain ⟨x, p1, a, args, pos, e1, h'⟩ := chkE_new h
    subst e1
    simp only [Bool.and_eq_true, beq_iff_eq] at h'
    have r := sndEs es h'.2 ok
    have hpl : ∀ pos, (backTo pos (starEach args X.env)).any (·.1) = false := fun pos => by
      have hc := h'.2
      cases es with
      | nil => simp only [chkEs, Bool.false_eq_true] at hc
      | cons _ _ => rw [chkEs, Bool.and_eq_true] at hc; exact plain_of (pos := pos) (env := X.env) hc.2
    exact se_of (snd_new ok h'.1.1.1 h'.1.1.2 h'.1.2 r.kept r.star (hpl _)) (fun _ _ _ _ q => by cases q) (fun _ _ _ _ q => by cases q)
  | .meth j cn (.cons e0 es), sc, so, X, e, h, ok => by
    obtain ⟨o, m, ap, args, pos, e1, h'⟩ := chkE_meth h
    subst e1
    simp only [Bool.and_eq_true, decide_eq_true_eq] at h'
    obtain ⟨⟨⟨⟨h1, h2⟩, h3⟩, h4⟩, h5⟩ := h'
    rw [chkEs, Bool.and_eq_true] at h5
    exact se_of (snd_meth ok h1 h2 h3 h4 h5.1 (sndE e0 h5.1 ok).pe (slotv ok h5.1) h5.2 (sndEs es h5.2 ok).lent) (fun _ _ _ _ q => by cases q) (fun _ _ _ _ q => by cases q)
  | .methp j cn (.cons e0 es), sc, so, X, e, h, ok => by
    obtain ⟨o, m, ap, args, pos, e1, h'⟩ := chkE_methp h
    subst e1
    simp only [Bool.and_eq_true, decide_eq_true_eq] at h'
    obtain ⟨⟨⟨⟨h1, h2⟩, h3⟩, h4⟩, h5⟩ := h'
    rw [chkEs, Bool.and_eq_true] at h5
    exact se_of ((snd_meth ok h1 h2 h3 h4 h5.1 (sndE e0 h5.1 ok).pe (slotv ok h5.1) h5.2 (sndEs es h5.2 ok).lent).imp fun σ H Q hh => by
      obtain ⟨ρ, F, As, m, ρ', e, g, k⟩ := hh
      exact ⟨ρ, F, As, m, ρ', methp_meth e (pre_of e), g, k⟩) (fun _ _ _ _ q => by cases q) (fun _ _ _ _ q => by cases q)
  | .meth j cn .nil, sc, so, X, e, h, ok => by
    obtain ⟨o, m, ap, args, pos, e1, h'⟩ := chkE_meth h
    rw [Bool.and_eq_true] at h'
    have h5 := h'.2
    simp only [chkEs, Bool.false_eq_true] at h5
  | .methp j cn .nil, sc, so, X, e, h, ok => by
    obtain ⟨o, m, ap, args, pos, e1, h'⟩ := chkE_methp h
    rw [Bool.and_eq_true] at h'
    have h5 := h'.2
    simp only [chkEs, Bool.false_eq_true] at h5
  | .sd (.comp own tg it cs elt), sc, so, X, e, h, ok => by
    obtain ⟨x, p1, d, pos, e1, h'⟩ := chkE_sd h
    subst e1
    simp only [Bool.and_eq_true, beq_iff_eq] at h'
    obtain ⟨⟨⟨⟨h1, h2⟩, h3⟩, _⟩, h5⟩ := h'
    split at h5
    · rename_i l hl
      obtain ⟨kx, j, p, gens, scope, dpos, rfl, rfl⟩ := asLc_of hl
      obtain ⟨t, i, ifs, rfl⟩ := chkE_comp1 h5
      rw [chkE] at h5
      simp only [Bool.and_eq_true] at h5
      obtain ⟨⟨⟨⟨⟨⟨g1, g2⟩, g3⟩, g4⟩, g5⟩, g6⟩, g7⟩ := h5
      have okB := fun s H C cl fp => ok.blk s H scope C cl fp
      have fold : ∀ x, foldedSetIterable i X.env x = pure x := fun x => fold_it g3 x
      exact se_of (snd_sd ok h1 h2 h3 (by rw [ok.N]; exact ok.nd) (beq_iff_eq.mp g1) (sndI it g3 ok) (by rw [ok.N, ok.sc]; exact blk_of g2) (fun j hj => List.contains_iff_mem.mp (List.all_eq_true.mp g5 j hj))
        (fun s H C cl fp => snd_tg (okB s H C cl fp).N (okB s H C cl fp).nd (okB s H C cl fp).sc (okB s H C cl fp).st (okB s H C cl fp).calm G.pin g4) (fun s H C cl fp => sndCs cs g6 (okB s H C cl fp)) (fun s H C cl fp => (sndE elt g7 (okB s H C cl fp)).pe) fold) (fun _ _ _ _ q => by cases q) (fun _ _ _ _ q => by cases q)
    · cases h5
  | .sd (.k _), sc, so, X, e, h, ok => (sd_no h (fun z => by cases z)).elim
  | .sd (.g _), sc, so, X, e, h, ok => (sd_no h (fun z => by cases z)).elim
  | .sd (.var _), sc, so, X, e, h, ok => (sd_no h (fun z => by cases z)).elim
  | .sd (.op _ _), sc, so, X, e, h, ok => (sd_no h (fun z => by cases z)).elim
  | .sd (.sl _ _ _), sc, so, X, e, h, ok => (sd_no h (fun z => by cases z)).elim
  | .sd (.tup _), sc, so, X, e, h, ok => (sd_no h (fun z => by cases z)).elim
  | .sd (.lst _), sc, so, X, e, h, ok => (sd_no h (fun z => by cases z)).elim
  | .sd (.ite _ _ _), sc, so, X, e, h, ok => (sd_no h (fun z => by cases z)).elim
  | .sd (.and _ _), sc, so, X, e, h, ok => (sd_no h (fun z => by cases z)).elim
  | .sd (.or _ _), sc, so, X, e, h, ok => (sd_no h (fun z => by cases z)).elim
  | .sd (.not _), sc, so, X, e, h, ok => (sd_no h (fun z => by cases z)).elim
  | .sd (.chain _ _ _ _ _), sc, so, X, e, h, ok => (sd_no h (fun z => by cases z)).elim
  | .sd (.isi _ _ _), sc, so, X, e, h, ok => (sd_no h (fun z => by cases z)).elim
  | .sd (.call _ _), sc, so, X, e, h, ok => (sd_no h (fun z => by cases z)).elim
  | .sd (.callk _ _ _), sc, so, X, e, h, ok => (sd_no h (fun z => by cases z)).elim
  | .sd (.callp _ _), sc, so, X, e, h, ok => (sd_no h (fun z => by cases z)).elim
  | .sd (.comp2 _ _ _ _ _ _ _ _ _), sc, so, X, e, h, ok => (sd_no h (fun z => by cases z)).elim
  | .sd (.pop _ _), sc, so, X, e, h, ok => (sd_no h (fun z => by cases z)).elim
  | .sd (.pop0 _), sc, so, X, e, h, ok => (sd_no h (fun z => by cases z)).elim
  | .sd (.rgl _ _), sc, so, X, e, h, ok => (sd_no h (fun z => by cases z)).elim
  | .sd (.rgl2 _ _ _), sc, so, X, e, h, ok => (sd_no h (fun z => by cases z)).elim
  | .sd (.fld _ _ _), sc, so, X, e, h, ok => (sd_no h (fun z => by cases z)).elim
  | .sd (.fidx _ _ _ _), sc, so, X, e, h, ok => (sd_no h (fun z => by cases z)).elim
  | .sd (.flen _ _ _), sc, so, X, e, h, ok => (sd_no h (fun z => by cases z)).elim
  | .sd (.new _ _ _ _), sc, so, X, e, h, ok => (sd_no h (fun z => by cases z)).elim
  | .sd (.meth _ _ _), sc, so, X, e, h, ok => (sd_no h (fun z => by cases z)).elim
  | .sd (.methp _ _ _), sc, so, X, e, h, ok => (sd_no h (fun z => by cases z)).elim
  | .sd (.bor _), sc, so, X, e, h, ok => (sd_no h (fun z => by cases z)).elim
  | .sd (.call0 _), sc, so, X, e, h, ok => (sd_no h (fun z => by cases z)).elim
  | .sd (.sd _), sc, so, X, e, h, ok => (sd_no h (fun z => by cases z)).elim
  | .bor ir, sc, so, X, e, h, ok => by
    obtain ⟨f, args, kws, pos, e1, h'⟩ := chkE_bor h
    subst e1
    exact se_of (snd_bor (sndE ir h' ok).pe) (fun _ _ _ _ q => by cases q) (fun _ _ _ _ q => by cases q)
  | .call0 j, sc, so, X, e, h, ok => by
    obtain ⟨x, p1, pos, e1, h'⟩ := chkE_call0 h
    subst e1
    rw [Bool.and_eq_true] at h'
    obtain ⟨h1, h2⟩ := h'
    unfold fnB at h1
    rw [Bool.and_eq_true, beq_iff_eq] at h1
    obtain ⟨hj, h1⟩ := h1
    cases hI : Z.fn j with
    | none => rw [hI] at h1; cases h1
    | some I => exact se_of (snd_call0 ok hI ((Zs.fn_name hI).trans hj) h2) (fun _ _ _ _ q => by cases q) (fun _ _ _ _ q => by cases q)
termination_by x => sizeOf x
theorem sndEs : ∀ (irs : Es) {sc : Scope} {so : Str → Bool} {X : Cx} {es : List Expr}, chkEs Z irs sc so es = true → Ok Z G Cl sc so X → SEs Z sc so X Cl G irs es
  | .nil, sc, so, X, es, h, ok => by
    cases es with
    | nil => exact ses_nil
    | cons _ _ => simp only [chkEs, Bool.false_eq_true] at h
  | .cons ir irs, sc, so, X, es, h, ok => by
    cases es with
    | nil => simp only [chkEs, Bool.false_eq_true] at h
    | cons e es =>
      rw [chkEs] at h
      rw [Bool.and_eq_true] at h
      exact ses_cons ok h.1 h.2 (sndE ir h.1 ok).pe (sndEs irs h.2 ok)
termination_by x => sizeOf x
theorem sndO : ∀ (o : Op) {sc : Scope} {so : Str → Bool} {X : Cx} {e : Option Expr}, chkO Z o sc so e = true → Ok Z G Cl sc so X → PO X e (tOx X.K Cl o.vs (evO G o))
  | .no, sc, so, X, e, h, ok => by
    cases e with
    | none => exact snd_ono
    | some _ => simp only [chkO, Bool.false_eq_true] at h
  | .some ir, sc, so, X, e, h, ok => by
    cases e with
    | none => simp only [chkO, Bool.false_eq_true] at h
    | some e => rw [chkO] at h; exact snd_osome (view ok h (sndE ir h ok).pe)
termination_by x => sizeOf x
theorem sndC : ∀ (c : C) {sc : Scope} {so : Str → Bool} {X : Cx} {e : Expr}, chkC Z c sc so e = true → Ok Z G Cl sc so X → SC X Cl G c e
  | .val ir, sc, so, X, e, h, ok => by
    by_cases hcmp : ∃ x os ys pos, e = .Compare x os ys pos
    · obtain ⟨x, os, ys, pos, rfl⟩ := hcmp
      rw [chkC] at h
      exact sc_of ((sndE ir h ok).pt _ _ _ _ rfl) fun _ _ _ q => by cases q
    · have h' : (plainTest e && chkE Z ir sc so e) = true := by
        cases e <;> first
          | (rw [chkC] at h <;> first | exact h | (intro x os ys pos q; cases q))
          | exact absurd ⟨_, _, _, _, rfl⟩ hcmp
      rw [Bool.and_eq_true] at h'
      refine sc_of ((pt_truth (view ok h'.2 (sndE ir h'.2 ok).pe) (test_of h'.1)).imp fun σ H Q q => cd_val q) fun op vs pos q => ?_
      subst q
      exact Bool.noConfusion (show false = true from h'.1)
  | .not c, sc, so, X, e, h, ok => by
    cases e <;> first
      | (simp only [chkC, Bool.false_eq_true] at h; done)
      | skip
    rename_i op x pos
    cases op <;> first
      | (simp only [chkC, Bool.false_eq_true] at h; done)
      | skip
    rw [chkC] at h
    exact sc_of ((pt_not (sndC c h ok).pt).imp fun σ H Q q => cd_not q) fun _ _ _ q => by cases q
  | .and a b, sc, so, X, e, h, ok => by
    cases e <;> first
      | (simp only [chkC, Bool.false_eq_true] at h; done)
      | skip
    rename_i op vs pos
    cases op <;> first
      | (simp only [chkC, Bool.false_eq_true] at h; done)
      | skip
    match vs, h with
    | [], h => simp only [chkC, Bool.false_eq_true] at h
    | [_], h => simp only [chkC, Bool.false_eq_true] at h
    | x :: y :: r, h =>
      rw [chkC, Bool.and_eq_true] at h
      exact sc_pw ((pw_and (sndC a h.1 ok).pt (sc_rest (sndC b h.2 ok))).imp fun σ H Q q => cd_and q)
  | .or a b, sc, so, X, e, h, ok => by
    cases e <;> first
      | (simp only [chkC, Bool.false_eq_true] at h; done)
      | skip
    rename_i op vs pos
    cases op <;> first
      | (simp only [chkC, Bool.false_eq_true] at h; done)
      | skip
    match vs, h with
    | [], h => simp only [chkC, Bool.false_eq_true] at h
    | [_], h => simp only [chkC, Bool.false_eq_true] at h
    | x :: y :: r, h =>
      rw [chkC, Bool.and_eq_true] at h
      exact sc_pw ((pw_or (sndC a h.1 ok).pt (sc_rest (sndC b h.2 ok))).imp fun σ H Q q => cd_or q)
termination_by x => sizeOf x
theorem sndCs : ∀ (cs : Cs) {sc : Scope} {so : Str → Bool} {X : Cx} {es : List Expr}, chkCs Z cs sc so es = true → Ok Z G Cl sc so X → PTs X es (tCd X.K Cl (evCs G cs))
  | .nil, sc, so, X, es, h, ok => by
    cases es with
    | nil => exact ⟨fun pins s σ H Q I q => pts_nil.run pins s σ H Q I (by
        obtain ⟨ρ, F, As, b, ρ', e1, g, k⟩ := q
        cases e1
        exact k F As H Step.refl g)⟩
    | cons _ _ => simp only [chkCs, Bool.false_eq_true] at h
  | .cons c .nil, sc, so, X, es, h, ok => by
    match es, h with
    | [], h => simp only [chkCs, Bool.false_eq_true] at h
    | _ :: _ :: _, h => simp only [chkCs, Bool.false_eq_true] at h
    | [x], h =>
      rw [chkCs] at h
      exact ⟨fun pins s σ H Q I q => (pts_one (sndC c h ok).pt).run pins s σ H Q I (by
        obtain ⟨ρ, F, As, b, ρ', e1, g, k⟩ := q
        unfold evCs at e1
        obtain ⟨d, ρ1, e2, e1⟩ := bnd_some e1
        refine ⟨ρ, F, As, d, ρ1, e2, g, fun F' As' H' st g' => ?_⟩
        cases d with
        | true => unfold evCs at e1; cases e1; exact k F' As' H' st g'
        | false => cases e1; exact k F' As' H' st g')⟩
  | .cons _ (.cons _ _), sc, so, X, es, h, ok => by simp only [chkCs, Bool.false_eq_true] at h
termination_by x => sizeOf x
theorem sndI : ∀ (it : I) {sc : Scope} {so : Str → Bool} {X : Cx} {tg e : Expr}, chkI Z it sc so (isTupE tg) e = true → Ok Z G Cl sc so X → PI X tg e (tI X.K Cl (evI G it))
  | .seq ir, sc, so, X, tg, e, h, ok => by rw [chkI] at h; exact snd_seq (sndE ir h ok).pe
  | .range1 a, sc, so, X, tg, e, h, ok => by
    obtain ⟨f, p1, x, pos, e1, h'⟩ := chkI_r1 h
    subst e1
    simp only [Bool.and_eq_true, beq_iff_eq] at h'
    exact snd_range1 ok h'.1.1.1 h'.1.1.2 h'.1.2 (sndE a h'.2 ok).pe (star_of h'.2)
  | .range2 a b, sc, so, X, tg, e, h, ok => by
    obtain ⟨f, p1, x, y, pos, e1, h'⟩ := chkI_r2 h
    subst e1
    simp only [Bool.and_eq_true, beq_iff_eq] at h'
    exact snd_range2 ok h'.1.1.1.1 h'.1.1.1.2 h'.1.1.2 (sndE a h'.1.2 ok).pe (sndE b h'.2 ok).pe (fun es => star_of h'.1.2) (star_of h'.2)
  | .enum a, sc, so, X, tg, e, h, ok => by
    obtain ⟨hb, f, p1, x, pos, e1, h'⟩ := chkI_en h
    subst e1
    simp only [Bool.and_eq_true, beq_iff_eq] at h'
    have r := sndE a h'.2 ok
    cases tg <;> first
      | (simp only [isTupE, Bool.false_eq_true] at hb; done)
      | skip
    exact snd_enum ok h'.1.1.1 h'.1.1.2 h'.1.2 r.pe (star_of h'.2)
  | .zip a b, sc, so, X, tg, e, h, ok => by
    obtain ⟨hb, f, p1, x, y, pos, e1, h'⟩ := chkI_zp h
    subst e1
    simp only [Bool.and_eq_true, beq_iff_eq] at h'
    have r := sndE a h'.1.2 ok
    have r' := sndE b h'.2 ok
    cases tg <;> first
      | (simp only [isTupE, Bool.false_eq_true] at hb; done)
      | skip
    exact snd_zip ok h'.1.1.1.1 h'.1.1.1.2 h'.1.1.2 r.pe r'.pe (fun es => star_of h'.1.2) (star_of h'.2)
  | .range3 a b c, sc, so, X, tg, e, h, ok => by
    obtain ⟨f, p1, x, y, z, pos, e1, h'⟩ := chkI_r3 h
    subst e1
    simp only [Bool.and_eq_true, beq_iff_eq] at h'
    obtain ⟨⟨⟨⟨⟨h1, h2⟩, h3⟩, h4⟩, h5⟩, h6⟩ := h'
    exact snd_range3 ok h1 h2 h3 (sndE a h4 ok).pe (sndE b h5 ok).pe (sndE c h6 ok).pe (fun es => star_of h4) (fun es => star_of h5) (star_of h6)
  | .zip3 a b c, sc, so, X, tg, e, h, ok => by
    obtain ⟨hb, f, p1, x, y, z, pos, e1, h'⟩ := chkI_zp3 h
    subst e1
    simp only [Bool.and_eq_true, beq_iff_eq] at h'
    obtain ⟨⟨⟨⟨⟨h1, h2⟩, h3⟩, h4⟩, h5⟩, h6⟩ := h'
    have r := sndE a h4 ok
    have r' := sndE b h5 ok
    have r'' := sndE c h6 ok
    cases tg <;> first
      | (simp only [isTupE, Bool.false_eq_true] at hb; done)
      | skip
    exact snd_zip3 ok h1 h2 h3 r.pe r'.pe r''.pe (fun es => star_of h4) (fun es => star_of h5) (star_of h6)
termination_by x => sizeOf x
end
end
end Mk
set_option maxHeartbeats 4000000
/-! Mk: statements. -/
namespace Mk
open PySem L2
section
variable {K : PySem.W.Frag} {Cl : Nat → Option ClsI} {F F1 H H1 : Hp} {ρ : Slots} {σ σ1 : St} {As As1 : Nat → AS} {G : Gc} {Z : Zs} {sc : Scope} {so : Str → Bool} {X : Cx} {pin : List Nat} {D : Ends}
abbrev Pin (pin : List Nat) (σ σ' : St) : Prop := ∀ i, i ∈ pin → σ'[i]? = σ[i]?
def kN (K : PySem.W.Frag) (Cl : Nat → Option ClsI) (pin : List Nat) (σ : St) (F : Hp) (As : Nat → AS) (H : Hp) (ρ' : Slots) (P : St → Hp → Prop) : Prop :=
  ∀ σ' F' As' H', Step false F (Own As) H F' (Own As') H' → Good K Cl ρ' σ' F' As' H' → Pin pin σ σ' → P σ' H'
def kR (K : PySem.W.Frag) (Cl : Nat → Option ClsI) (pin : List Nat) (σ : St) (F : Hp) (As : Nat → AS) (H : Hp) (m : M) (ρ' : Slots) (P : VK) : Prop :=
  ∀ σ' v F' As' A H', Step false F (Own As) H F' ((Own As').or A) H' → Good K Cl ρ' σ' F' As' H' → Pin pin σ σ' → RepM K Cl F' H' m v A → (∀ a, A a → ¬ Own As' a) → P v H'
def kEnd (K : PySem.W.Frag) (Cl : Nat → Option ClsI) (pin : List Nat) (σ : St) (F : Hp) (As : Nat → AS) (H : Hp) (o : Out) (ρ' : Slots) (D : Ends) : Prop := match o with
  | .next => kN K Cl pin σ F As H ρ' D.nx
  | .brk => kN K Cl pin σ F As H ρ' D.bk
  | .cont => kN K Cl pin σ F As H ρ' D.ct
  | .ret m => kR K Cl pin σ F As H m ρ' D.rt
def tS (K : PySem.W.Frag) (Cl : Nat → Option ClsI) (pin : List Nat) (f : Slots → Option (Out × Slots)) : TS := fun D σ H => ∃ ρ F As o ρ', f ρ = some (o, ρ') ∧ Good K Cl ρ σ F As H ∧ kEnd K Cl pin σ F As H o ρ' D
theorem kN.go {ρ' : Slots} {P : St → Hp → Prop} (h : kN K Cl pin σ F As H ρ' P) (st : Step false F (Own As) H F1 (Own As1) H1) (p : Pin pin σ σ1) : kN K Cl pin σ1 F1 As1 H1 ρ' P :=
  fun σ' F' As' H' st' g' p' => h σ' F' As' H' ((st.trans st').weak fun z => by cases z) g' fun i hi => (p' i hi).trans (p i hi)
theorem kEnd.go {o : Out} {ρ' : Slots} (h : kEnd K Cl pin σ F As H o ρ' D) (st : Step false F (Own As) H F1 (Own As1) H1) (p : Pin pin σ σ1) : kEnd K Cl pin σ1 F1 As1 H1 o ρ' D := by
  cases o with
  | next => exact kN.go h st p
  | brk => exact kN.go h st p
  | cont => exact kN.go h st p
  | ret m => exact fun σ' v F' As' A H' st' g' p' r d => h σ' v F' As' A H' ((st.trans st').weak fun z => by cases z) g' (fun i hi => (p' i hi).trans (p i hi)) r d
theorem Pin.refl : Pin pin σ σ := fun _ _ => rfl
theorem s_skip (h : tS K Cl pin (ex G .skip) D σ H) : tNext D σ H := by
  obtain ⟨ρ, F, As, o, ρ', e, g, k⟩ := h
  cases e
  exact k σ F As H Step.refl g Pin.refl
theorem s_brk (h : tS K Cl pin (ex G .brk) D σ H) : tBreak D σ H := by
  obtain ⟨ρ, F, As, o, ρ', e, g, k⟩ := h
  cases e
  exact k σ F As H Step.refl g Pin.refl
theorem s_cont (h : tS K Cl pin (ex G .cont) D σ H) : tCont D σ H := by
  obtain ⟨ρ, F, As, o, ρ', e, g, k⟩ := h
  cases e
  exact k σ F As H Step.refl g Pin.refl
theorem s_never (h : tS K Cl pin (ex G .never) D σ H) : tNever D σ H := by
  obtain ⟨ρ, F, As, o, ρ', e, g, k⟩ := h
  cases e
theorem s_seq {a b : S} (h : tS K Cl pin (ex G (.seq a b)) D σ H) : tSeq (tS K Cl pin (ex G a)) (tS K Cl pin (ex G b)) D σ H := by
  obtain ⟨ρ, F, As, o, ρ', e, g, k⟩ := h
  unfold ex at e
  obtain ⟨o1, ρ1, e1, e⟩ := bnd_some e
  cases o1 with
  | next => exact ⟨ρ, F, As, .next, ρ1, e1, g, fun σ1 F1 As1 H1 st1 g1 p1 => ⟨ρ1, F1, As1, o, ρ', e, g1, k.go st1 p1⟩⟩
  | brk => cases e; exact ⟨ρ, F, As, .brk, ρ', e1, g, k⟩
  | cont => cases e; exact ⟨ρ, F, As, .cont, ρ', e1, g, k⟩
  | ret m => cases e; exact ⟨ρ, F, As, .ret m, ρ', e1, g, k⟩
theorem s_expr {e : E} (h : tS K Cl pin (ex G (.expr e)) D σ H) : tDrop (tE K Cl e.vs (ev G e)) D σ H := by
  obtain ⟨ρ, F, As, o, ρ', e1, g, k⟩ := h
  unfold ex at e1
  obtain ⟨m, ρ1, e2, e1⟩ := bnd_some e1
  cases e1
  exact ⟨ρ, F, As, m, ρ', e2, g, fun v F1 As1 A H1 st g1 r d => k σ F1 As1 H1 ((st.less fun b h => .inl h).weak fun z => by cases z) g1 Pin.refl⟩
theorem s_asg {i : Nat} {e : E} (h : tS K Cl pin (ex G (.asg (.nm i) e)) D σ H) (hp : G.pin = pin) : tAsg (tE K Cl e.vs (ev G e)) (gName i) D σ H := by
  subst hp
  obtain ⟨ρ, F, As, o, ρ', e1, g, k⟩ := h
  have e1 : (bnd (ev G e ρ) fun m ρ => obd (setM G.pin i m ρ) fun ρ => some (Out.next, ρ)) = some (o, ρ') := e1
  obtain ⟨m, ρ1, e2, e1⟩ := bnd_some e1
  obtain ⟨ρ2, e3, e1⟩ := obd_some e1
  cases e1
  unfold setM at e3
  split at e3
  · rename_i hi
    cases e3
    refine ⟨ρ, F, As, m, ρ1, e2, g, fun v F1 As1 A H1 st g1 r d => ?_⟩
    have g2 := g1.store (i := i) (m := m) (v := v) (A := A) hi.1 r fun j a _ ha hj => d a ha ⟨j, hj⟩
    refine k (σ.set i (some v)) F1 _ H1 ((st.less fun b hb => ?_).weak fun z => by cases z) g2 fun j hj => List.getElem?_set_ne fun z => hi.2 (by rw [z]; exact hj)
    exact own_upd b hb
  · cases e3
theorem s_asgT {tg : Tg} {e : E} (h : tS K Cl pin (fun ρ => bnd (f1 (ev G e ρ)) fun t ρ => obd (tg.store G.pin t ρ) fun ρ => some (Out.next, ρ)) D σ H) (hp : G.pin = pin) : tAsg (tF K Cl false (fun ρ => f1 (ev G e ρ))) (tG K Cl pin tg) D σ H := by
  subst hp
  obtain ⟨ρ, F, As, o, ρ', e1, g, k⟩ := h
  obtain ⟨t, ρ1, e2, e1⟩ := bnd_some e1
  obtain ⟨ρ2, e3, e1⟩ := obd_some e1
  cases e1
  exact ⟨ρ, F, As, t, ρ1, e2, g, fun v F1 As1 H1 st1 g1 r1 => ⟨ρ1, F1, As1, t, ρ', e3, g1, r1, fun σ' As' g' o' p' _ => k σ' F1 As' H1 (st1.less o') g' p'⟩⟩
/-! two values at once -/
def t2E (ta tb : TE) : TA := fun σ H Q => ta σ H fun x H1 => tb σ H1 fun y H2 => Q [x, y] H2
theorem pa_two {a b : Expr} {ta tb : TE} (ha : PE X a ta) (hb : PE X b tb) (s1 : starEach [a, b] X.env = (false, eval a X.env) :: starEach [b] X.env) (s2 : starEach [b] X.env = (false, eval b X.env) :: starEach [] X.env) : PA X [a, b] (t2E ta tb) :=
  (pa_cons ha (pa_cons hb pa_nil s2) s1).imp fun σ H Q q => q
theorem s_par {i j : Nat} {a b : E} (h : tS K Cl pin (ex G (.par [i, j] (.cons a (.cons b .nil)))) D σ H) (hp : G.pin = pin) : tPar i j (t2E (tE K Cl a.vs (ev G a)) (tE K Cl b.vs (ev G b))) D σ H := by
  subst hp
  obtain ⟨ρ, F, As, o, ρ', e1, g, k⟩ := h
  unfold ex at e1
  obtain ⟨ms, ρ1, e2, e1⟩ := bnd_some e1
  obtain ⟨ρ2, e3, e1⟩ := obd_some e1
  cases e1
  unfold evp at e2
  obtain ⟨m1, ρa, ea, e2⟩ := bnd_some e2
  obtain ⟨ms2, ρb, eb, e2⟩ := bnd_some e2
  cases e2
  unfold evp at eb
  obtain ⟨m2, ρc, ec, eb⟩ := bnd_some eb
  obtain ⟨ms3, ρd, ed, eb⟩ := bnd_some eb
  cases eb
  cases ed
  have e3 : (obd (setM G.pin i m1 ρ1) fun ρ => obd (setM G.pin j m2 ρ) fun ρ => some ρ) = some ρ' := e3
  obtain ⟨ρx, ex1, e3⟩ := obd_some e3
  obtain ⟨ρy, ey1, e3⟩ := obd_some e3
  cases e3
  unfold setM at ex1 ey1
  split at ex1
  · rename_i hi
    cases ex1
    split at ey1
    · rename_i hj
      cases ey1
      refine ⟨ρ, F, As, m1, ρa, ea, g, fun v F1 As1 A1 H1 st1 g1 r1 d1 => ⟨ρa, F1, As1, m2, ρ1, ec, g1, fun w F2 As2 A2 H2 st2 g2 r2 d2 => ⟨v, w, rfl, ?_⟩⟩⟩
      obtain ⟨r1', d1'⟩ := st2.held r1 d1
      have g3 := g2.store (i := i) (m := m1) (v := v) (A := A1) hi.1 r1' fun k a _ ha hk => d1' a ha (.inl ⟨k, hk⟩)
      have g4 := g3.store (i := j) (m := m2) (v := w) (A := A2) hj.1 r2 fun k a _ ha hk => by
        rcases own_upd a ⟨k, hk⟩ with z | z
        · exact d2 a ha z
        · exact d1' a z (.inr ha)
      refine k _ F2 _ H2 ?_ g4 fun n hn => (List.getElem?_set_ne fun z => hj.2 (by rw [z]; exact hn)).trans (List.getElem?_set_ne fun z => hi.2 (by rw [z]; exact hn))
      have w1 : Step false F1 (Own As1) H1 F2 ((Own As2).or A2) H2 := st2.weak fun z => by cases z
      refine (((st1.weak (q := false) fun z => by cases z).trans w1.with).less fun b hb => ?_).weak fun z => by cases z
      rcases own_upd b hb with z | z
      · rcases own_upd b z with y | y
        · exact .inl (.inl y)
        · exact .inr y
      · exact .inl (.inr z)
    · cases ey1
  · cases ex1
/-- two values at once, by way of a tuple -/
theorem s_parT {i j : Nat} {a b : E} (h : tS K Cl pin (ex G (.par [i, j] (.cons a (.cons b .nil)))) D σ H) (hp : G.pin = pin) : tAsg (tTup (t2E (tE K Cl a.vs (ev G a)) (tE K Cl b.vs (ev G b)))) (gTup K 2 (gCons (gName i) (gCons (gName j) gNil))) D σ H := by
  subst hp
  obtain ⟨ρ, F, As, o, ρ', e1, g, k⟩ := h
  unfold ex at e1
  obtain ⟨ms, ρ1, e2, e1⟩ := bnd_some e1
  obtain ⟨ρ2, e3, e1⟩ := obd_some e1
  cases e1
  unfold evp at e2
  obtain ⟨m1, ρa, ea, e2⟩ := bnd_some e2
  obtain ⟨ms2, ρb, eb, e2⟩ := bnd_some e2
  cases e2
  unfold evp at eb
  obtain ⟨m2, ρc, ec, eb⟩ := bnd_some eb
  obtain ⟨ms3, ρd, ed, eb⟩ := bnd_some eb
  cases eb
  cases ed
  have e3 : (obd (setM G.pin i m1 ρ1) fun ρ => obd (setM G.pin j m2 ρ) fun ρ => some ρ) = some ρ' := e3
  obtain ⟨ρx, ex1, e3⟩ := obd_some e3
  obtain ⟨ρy, ey1, e3⟩ := obd_some e3
  cases e3
  unfold setM at ex1 ey1
  split at ex1
  · rename_i hi
    cases ex1
    split at ey1
    · rename_i hj
      cases ey1
      refine ⟨ρ, F, As, m1, ρa, ea, g, fun v F1 As1 A1 H1 st1 g1 r1 d1 => ⟨ρa, F1, As1, m2, ρ1, ec, g1, fun w F2 As2 A2 H2 st2 g2 r2 d2 => ⟨by show 2 ≤ sizeLine; decide, fun p hpn => ?_⟩⟩⟩
      obtain ⟨r1', d1'⟩ := st2.held r1 d1
      obtain ⟨gp, stp, dp⟩ := g2.after (new_own (o := .tup [v, w]) g2.same hpn) (g2.same.trans (Same.push hpn))
      obtain ⟨r1p, _⟩ := stp.held r1' fun b hb h => d1' b hb (.inl h)
      obtain ⟨r2p, _⟩ := stp.held r2 d2
      refine ⟨p, [v, w], rfl, SqT.of upd_same, rfl, v, [w], rfl, w, [], rfl, rfl, ?_⟩
      have g3 := gp.store (i := i) (m := m1) (v := v) (A := A1) hi.1 r1p fun k a _ ha hk => d1' a ha (.inl ⟨k, hk⟩)
      have g4 := g3.store (i := j) (m := m2) (v := w) (A := A2) hj.1 r2p fun k a _ ha hk => by
        rcases own_upd a ⟨k, hk⟩ with z | z
        · exact d2 a ha z
        · exact d1' a z (.inr ha)
      refine k _ F2 _ _ ?_ g4 fun n hn => (List.getElem?_set_ne fun z => hj.2 (by rw [z]; exact hn)).trans (List.getElem?_set_ne fun z => hi.2 (by rw [z]; exact hn))
      have w1 : Step false F1 (Own As1) H1 F2 ((Own As2).or A2) H2 := st2.weak fun z => by cases z
      have w2 : Step false F2 (((Own As2).or A2).or A1) H2 F2 (((Own As2).or A2).or A1) (upd H2 p (.tup [v, w])) :=
        ⟨Same.refl F2, fun b u e _ => by rw [upd_ne (ne_of_none e hpn)]; exact e, fun b h => .inl h, fun _ _ e => .inl e, fun z => by cases z⟩
      refine ((((st1.weak (q := false) fun z => by cases z).trans w1.with).trans w2).less fun b hb => ?_).weak fun z => by cases z
      rcases own_upd b hb with z | z
      · rcases own_upd b z with y | y
        · exact .inl (.inl y)
        · exact .inr y
      · exact .inl (.inr z)
    · cases ey1
  · cases ex1
def t3E (ta tb tc : TE) : TA := fun σ H Q => ta σ H fun x H1 => tb σ H1 fun y H2 => tc σ H2 fun z H3 => Q [x, y, z] H3
theorem pa_three {a b c : Expr} {ta tb tc : TE} (ha : PE X a ta) (hb : PE X b tb) (hc : PE X c tc) (s1 : starEach [a, b, c] X.env = (false, eval a X.env) :: starEach [b, c] X.env) (s2 : starEach [b, c] X.env = (false, eval b X.env) :: starEach [c] X.env)
    (s3 : starEach [c] X.env = (false, eval c X.env) :: starEach [] X.env) : PA X [a, b, c] (t3E ta tb tc) :=
  (pa_cons ha (pa_cons hb (pa_cons hc pa_nil s3) s2) s1).imp fun σ H Q q => q
theorem s_par3 {i j l : Nat} {a b c : E} (h : tS K Cl pin (ex G (.par [i, j, l] (.cons a (.cons b (.cons c .nil))))) D σ H) (hp : G.pin = pin) : L2.tPar3 i j l (t3E (tE K Cl a.vs (ev G a)) (tE K Cl b.vs (ev G b)) (tE K Cl c.vs (ev G c))) D σ H := by
  subst hp
  obtain ⟨ρ, F, As, o, ρ', e1, g, k⟩ := h
  unfold ex at e1
  obtain ⟨ms, ρ1, e2, e1⟩ := bnd_some e1
  obtain ⟨ρ2, e3, e1⟩ := obd_some e1
  cases e1
  unfold evp at e2
  obtain ⟨m1, ρa, ea, e2⟩ := bnd_some e2
  obtain ⟨ms2, ρb, eb, e2⟩ := bnd_some e2
  cases e2
  unfold evp at eb
  obtain ⟨m2, ρc, ec, eb⟩ := bnd_some eb
  obtain ⟨ms3, ρd, ed, eb⟩ := bnd_some eb
  cases eb
  unfold evp at ed
  obtain ⟨m3, ρe, ee, ed⟩ := bnd_some ed
  obtain ⟨ms4, ρf, ef, ed⟩ := bnd_some ed
  cases ed
  cases ef
  have e3 : (obd (setM G.pin i m1 ρ1) fun ρ => obd (setM G.pin j m2 ρ) fun ρ => obd (setM G.pin l m3 ρ) fun ρ => some ρ) = some ρ' := e3
  obtain ⟨ρx, ex1, e3⟩ := obd_some e3
  obtain ⟨ρy, ey1, e3⟩ := obd_some e3
  obtain ⟨ρz, ez1, e3⟩ := obd_some e3
  cases e3
  unfold setM at ex1 ey1 ez1
  split at ex1
  · rename_i hi
    cases ex1
    split at ey1
    · rename_i hj
      cases ey1
      split at ez1
      · rename_i hl
        cases ez1
        refine ⟨ρ, F, As, m1, ρa, ea, g, fun v F1 As1 A1 H1 st1 g1 r1 d1 => ⟨ρa, F1, As1, m2, ρc, ec, g1, fun w F2 As2 A2 H2 st2 g2 r2 d2 => ⟨ρc, F2, As2, m3, ρ1, ee, g2, fun u F3 As3 A3 H3 st3 g3 r3 d3 => ⟨v, w, u, rfl, ?_⟩⟩⟩⟩
        obtain ⟨r1', d1'⟩ := st2.held r1 d1
        have st2w := st2.with (A := A1)
        have hd12 : ∀ a, A1 a → ¬ ((Own As2).or A2) a := d1'
        have st23 : Step false F2 ((Own As2).or A2) H2 F3 (((Own As3).or A3).or A2) H3 := (st3.with (A := A2)).weak fun z => by cases z
        obtain ⟨r2', d2'⟩ := st3.held r2 d2
        obtain ⟨r1'', d1''⟩ := st23.held r1' hd12
        have g4 := g3.store (i := i) (m := m1) (v := v) (A := A1) hi.1 r1'' fun k a _ ha hk => d1'' a ha (.inl (.inl ⟨k, hk⟩))
        have g5 := g4.store (i := j) (m := m2) (v := w) (A := A2) hj.1 r2' fun k a _ ha hk => by
          rcases own_upd a ⟨k, hk⟩ with z | z
          · exact d2' a ha (.inl z)
          · exact d1'' a z (.inr ha)
        have g6 := g5.store (i := l) (m := m3) (v := u) (A := A3) hl.1 r3 fun k a _ ha hk => by
          rcases own_upd a ⟨k, hk⟩ with z | z
          · rcases own_upd a z with y | y
            · exact d3 a ha y
            · exact d1'' a y (.inl (.inr ha))
          · exact d2' a z (.inr ha)
        refine k _ F3 _ H3 ?_ g6 fun n hn => ((List.getElem?_set_ne fun z => hl.2 (by rw [z]; exact hn)).trans (List.getElem?_set_ne fun z => hj.2 (by rw [z]; exact hn))).trans (List.getElem?_set_ne fun z => hi.2 (by rw [z]; exact hn))
        have w1 : Step false F1 (Own As1) H1 F2 ((Own As2).or A2) H2 := st2.weak fun z => by cases z
        refine ((((st1.weak (q := false) fun z => by cases z).trans w1.with).trans st23.with).less fun b hb => ?_).weak fun z => by cases z
        rcases own_upd b hb with z | z
        · rcases own_upd b z with y | y
          · rcases own_upd b y with x | x
            · exact .inl (.inl (.inl x))
            · exact .inr x
          · exact .inl (.inr y)
        · exact .inl (.inl (.inr z))
      · cases ez1
    · cases ey1
  · cases ex1
theorem s_put {i : Nat} {kx e : E} (h : tS K Cl pin (ex G (.put i kx e)) D σ H) : tAsg (tF K Cl false (fun ρ => f1 (ev G e ρ))) (gSub (tVar i) (tF K Cl false (fun ρ => f1 (ev G kx ρ))) rSetL) D σ H := by
  obtain ⟨ρ, F, As, o, ρ', e1, g, k⟩ := h
  unfold ex at e1
  obtain ⟨t, ρ1, e2, e1⟩ := bnd_some e1
  split at e1
  · rename_i hl
    obtain ⟨u, ρ2, e3, e1⟩ := bnd_some e1
    obtain ⟨xs, e4, e1⟩ := obd_some e1
    obtain ⟨n, e5, e1⟩ := obd_some e1
    obtain ⟨j, e6, e1⟩ := obd_some e1
    cases e1
    refine ⟨ρ, F, As, t, ρ1, e2, g, fun v F1 As1 H1 st1 g1 r1 => ?_⟩
    obtain ⟨xs0, e0⟩ : ∃ xs0, lsOf ρ1 i = some xs0 := Option.isSome_iff_exists.mp hl
    obtain ⟨l, vs0, ev0, _⟩ := g1.write (ys := []) (ls_of e0)
    refine ⟨.ref l, ev0, ρ1, F1, As1, u, ρ2, e3, g1, fun w F2 As2 H2 st2 g2 r2 => ?_⟩
    unfold intOf at e5
    split at e5
    · cases e5
      cases r2
      obtain ⟨l', vs, ev1, hH, hz, hr, wr⟩ := g2.write (ys := xs.set j t) (ls_of e4)
      rw [ev0] at ev1; cases ev1
      obtain ⟨g3, st3⟩ := wr (vs.set j v) (hr.set (r1.mono st2.hf) j) (by rw [List.length_set]; exact hz)
      exact ⟨l, vs, n, j, rfl, rfl, hH, by rw [← hr.length]; exact e6, k σ F2 As2 _ (((st1.trans st2).trans st3).weak fun z => by cases z) g3 Pin.refl⟩
    · cases e5
  · cases e1
theorem s_app {i : Nat} {e : E} (h : tS K Cl pin (ex G (.app i e)) D σ H) : tDrop (tBM K "list" rAppend (tVar i) (fun σ H Q => tF K Cl false (fun ρ => f1 (ev G e ρ)) σ H fun x H1 => Q [x] H1)) D σ H := by
  obtain ⟨ρ, F, As, o, ρ', e1, g, k⟩ := h
  unfold ex at e1
  split at e1
  · rename_i hl
    obtain ⟨t, ρ1, e2, e1⟩ := bnd_some e1
    obtain ⟨xs, e3, e1⟩ := obd_some e1
    split at e1
    · rename_i hn
      cases e1
      obtain ⟨xs0, e0⟩ : ∃ xs0, lsOf ρ i = some xs0 := Option.isSome_iff_exists.mp hl
      obtain ⟨l, vs0, ev0, hH0, _⟩ := g.write (ys := []) (ls_of e0)
      refine ⟨.ref l, ev0, .inl ⟨rfl, vs0, SqL.of hH0⟩, ρ, F, As, t, ρ1, e2, g, fun v F1 As1 H1 st1 g1 r1 => ?_⟩
      obtain ⟨l', vs, ev1, hH, hz, hr, wr⟩ := g1.write (ys := xs ++ [t]) (ls_of e3)
      rw [ev0] at ev1; cases ev1
      have hl : vs.length < sizeLine := by rw [← hr.length]; exact hn
      obtain ⟨g3, st3⟩ := wr (vs ++ [v]) (hr.append (.cons r1 .nil)) (by rw [List.length_append]; exact hl)
      exact ⟨l, vs, v, rfl, rfl, hH, hl, k σ F1 As1 _ ((st1.trans st3).weak fun z => by cases z) g3 Pin.refl⟩
    · cases e1
  · cases e1
theorem s_retN (h : tS K Cl pin (ex G .retN) D σ H) : tRetN D σ H := by
  obtain ⟨ρ, F, As, o, ρ', e, g, k⟩ := h
  cases e
  exact k σ .non F As non H (Step.refl.less fun b h => h.elim id fun z => z.elim) g Pin.refl ⟨fun _ h => h, .non⟩ fun _ h => h.elim
theorem s_if {c : C} {a b : S} (h : tS K Cl pin (ex G (.ifs c a b)) D σ H) : tIfS (tCd K Cl (evC G c)) (tS K Cl pin (ex G a)) (tS K Cl pin (ex G b)) D σ H := by
  obtain ⟨ρ, F, As, o, ρ', e, g, k⟩ := h
  unfold ex at e
  obtain ⟨d, ρ1, e1, e⟩ := bnd_some e
  refine ⟨ρ, F, As, d, ρ1, e1, g, fun F1 As1 H1 st1 g1 => ?_⟩
  cases d with
  | true => exact iteT ⟨ρ1, F1, As1, o, ρ', e, g1, k.go st1 Pin.refl⟩
  | false => exact iteF ⟨ρ1, F1, As1, o, ρ', e, g1, k.go st1 Pin.refl⟩
theorem s_retV {i : Nat} {e : E} (hs : e.slot? = some i) (hp : i ∉ G.pin) (hpp : G.pin = pin) (h : tS K Cl pin (ex G (.ret e)) D σ H) : tRet (tVar i) D σ H := by
  obtain ⟨ρ, F, As, o, ρ', e1, g, k⟩ := h
  unfold ex at e1
  rw [hs] at e1
  have e1 : (if i ∈ G.pin then bnd (ev G e ρ) fun m ρ => some (Out.ret m, ρ) else match ρ[i]? with
      | some (some m) => some (.ret m, ρ.set i none)
      | _ => none) = some (o, ρ') := e1
  rw [if_neg hp] at e1
  split at e1
  · rename_i m hm
    cases e1
    obtain ⟨v, ev1, r⟩ := g.rep i m hm
    refine ⟨v, ev1, k σ v F _ (As i) H (Step.refl.less fun b h => ?_) (g.clr i) Pin.refl r (g.apart i)⟩
    rcases h with h | h
    · exact (own_upd b h).elim id fun z => z.elim
    · exact ⟨i, h⟩
  · cases e1
theorem s_retE {e : E} (hs : ∀ i, e.slot? = some i → i ∈ G.pin) (h : tS K Cl pin (ex G (.ret e)) D σ H) : tRet (tE K Cl e.vs (ev G e)) D σ H := by
  obtain ⟨ρ, F, As, o, ρ', e1, g, k⟩ := h
  have e1 : (bnd (ev G e ρ) fun m ρ => some (Out.ret m, ρ)) = some (o, ρ') := by
    unfold ex at e1
    cases q : e.slot? with
    | none => rw [q] at e1; exact e1
    | some i =>
      rw [q] at e1
      have e1 : (if i ∈ G.pin then bnd (ev G e ρ) fun m ρ => some (Out.ret m, ρ) else match ρ[i]? with
          | some (some m) => some (.ret m, ρ.set i none)
          | _ => none) = some (o, ρ') := e1
      rw [if_pos (hs i q)] at e1
      exact e1
  obtain ⟨m, ρ1, e2, e1⟩ := bnd_some e1
  cases e1
  exact ⟨ρ, F, As, m, ρ', e2, g, fun v F1 As1 A H1 st g1 r d => k σ v F1 As1 A H1 (st.weak fun z => by cases z) g1 Pin.refl r d⟩
theorem forL_cons {f : T → Slots → Option (Out × Slots)} {xs : List T} {i : Nat} {t : T} {ρ : Slots} {r : Out × Slots} (e : xs[i]? = some t) (h : forL f (xs.drop i) ρ = some r) :
    ∃ o ρ1, f t ρ = some (o, ρ1) ∧ ((match o with
      | .next => forL f (xs.drop (i + 1)) ρ1
      | .cont => forL f (xs.drop (i + 1)) ρ1
      | .brk => some (.next, ρ1)
      | .ret m => some (.ret m, ρ1)) = some r) := by
  have hd : xs.drop i = t :: xs.drop (i + 1) := by
    obtain ⟨h1, h2⟩ := List.getElem?_eq_some_iff.mp e
    rw [List.drop_eq_getElem_cons h1, h2]
  rw [hd] at h
  unfold forL at h
  obtain ⟨o, ρ1, h1, h⟩ := bnd_some h
  exact ⟨o, ρ1, h1, h⟩
theorem s_for {tg : Tg} {it : I} {body : S} (hp : G.pin = pin) (h : tS K Cl pin (ex G (.for_ tg it body)) D σ H) : tFor (tI K Cl (evI G it)) (tG K Cl pin tg) (tS K Cl pin (ex G body)) D σ H := by
  subst hp
  obtain ⟨ρ, F, As, o, ρ', e, g, k⟩ := h
  unfold ex at e
  obtain ⟨xs, ρ0, e1, e⟩ := bnd_some e
  refine ⟨ρ, F, As, xs, ρ0, e1, g, fun J F1 As1 H1 st1 g1 it1 hz => ?_⟩
  obtain ⟨Gd, Y, wk, hG, hY⟩ := it1
  refine for_it wk (fun n σ' H' => ∃ ρn Fn An, forL (fun x ρ => obd (tg.store G.pin x ρ) fun ρ => ex G body ρ) (xs.drop n) ρn = some (o, ρ') ∧ Good K Cl ρn σ' Fn An H' ∧ Step false F1 (Own As1) H1 Fn (Own An) H' ∧ Pin G.pin σ σ') ?_ ?_ ?_ ?_
  · exact ⟨ρ0, F1, As1, by rw [List.drop_zero]; exact e, g1, Step.refl, Pin.refl⟩
  · rintro n σ2 H2 _ ⟨_, _, _, _, gg, stt, _⟩
    exact hG H2 (stt.hf.trans gg.same)
  · rintro n x σ2 H2 H3 hn ⟨ρn, Fn, An, c1, gg, stt, pp⟩ y
    have gv := hY n H2 x H3 hn y
    have gv' : Gives K Fn xs n H2 x H3 := by
      obtain ⟨t, h1, h | ⟨p, vs, ts, h2, h3, h4, h5, h6, h7⟩⟩ := gv
      · exact ⟨t, h1, .inl ⟨h.1, h.2.mono stt.hf⟩⟩
      · exact ⟨t, h1, .inr ⟨p, vs, ts, h2, h3, h4, h5, h6, h7.mono stt.hf⟩⟩
    obtain ⟨t0, F3, hx, g3, r3, st3⟩ := gg.item gv'
    obtain ⟨o1, ρa, h1, h2⟩ := forL_cons hx c1
    obtain ⟨ρb, h4, h1⟩ := obd_some h1
    refine ⟨ρn, F3, An, t0, ρb, h4, g3, r3, fun σ4 A4 g4 o4 p4 _ => ⟨ρb, F3, A4, o1, ρa, h1, g4, ?_⟩⟩
    have s0 : ∀ {F5 : Hp} {S5 : AS} {H5 : Hp}, Step false F3 (Own A4) H3 F5 S5 H5 → Step false F1 (Own As1) H1 F5 S5 H5 := fun st5 => ((stt.trans st3).trans (st5.more o4)).weak fun z => by cases z
    have p0 : ∀ {σ5 : St}, Pin G.pin σ4 σ5 → Pin G.pin σ σ5 := fun p5 i hi => ((p5 i hi).trans (p4 i hi)).trans (pp i hi)
    cases o1 with
    | next => exact fun σ5 F5 A5 H5 st5 g5 p5 => ⟨ρa, F5, A5, h2, g5, s0 st5, p0 p5⟩
    | cont => exact fun σ5 F5 A5 H5 st5 g5 p5 => ⟨ρa, F5, A5, h2, g5, s0 st5, p0 p5⟩
    | brk =>
      cases h2
      exact fun σ5 F5 A5 H5 st5 g5 p5 => k σ5 F5 A5 H5 ((st1.trans (s0 st5)).weak fun z => by cases z) g5 (p0 p5)
    | ret m =>
      cases h2
      exact fun σ5 v F5 A5 A H5 st5 g5 p5 r d => k σ5 v F5 A5 A H5 ((st1.trans (s0 st5)).weak fun z => by cases z) g5 (p0 p5) r d
  · rintro σ2 H2 ⟨ρn, Fn, An, c1, gg, stt, pp⟩
    rw [List.drop_length] at c1
    cases c1
    exact k σ2 Fn An H2 ((st1.trans stt).weak fun z => by cases z) gg pp
theorem Good.forget (g : Good K Cl ρ σ F As H) (own : List Nat) : Good K Cl (wipeS own ρ) σ F (wipeA own As) H := by
  refine ⟨g.same, fun i m e => ?_, fun i h => ?_, fun i j a hne h1 h2 => ?_, by rw [wipeS_len]; exact g.len⟩
  · rw [wipeS_get] at e
    split at e
    · cases e
    · rename_i hn
      obtain ⟨v, ev, r⟩ := g.rep i m e
      have ho : i ∉ own := fun z => hn ⟨z, (List.getElem?_eq_some_iff.mp e).1⟩
      refine ⟨v, ev, ?_⟩
      unfold wipeA
      rw [if_neg ho]
      exact r
  · unfold wipeA
    split
    · exact fun _ h => h
    · rename_i ho
      exact g.out i fun m e => h m (by rw [wipeS_get, if_neg fun z => ho z.1]; exact e)
  · unfold wipeA at h1 h2
    split at h1
    · exact h1
    · split at h2
      · exact h2
      · exact g.dis i j a hne h1 h2
theorem s_fg {is : List Nat} {b : S} (h : tS K Cl pin (ex G (.fg is b)) D σ H) : tS K Cl pin (ex G b) D σ H := by
  obtain ⟨ρ, F, As, o, ρ', e, g, k⟩ := h
  exact ⟨wipeS is ρ, F, wipeA is As, o, ρ', e, g.forget is, k.go (Step.refl.more fun b hb => wipeA_le b hb) Pin.refl⟩
/-- any slot's content is frozen where it stands -/
theorem Good.frzM (g : Good K Cl ρ σ F As H) {i : Nat} {m : M} {t : T} (e : ρ[i]? = some (some m)) (ht : m.frz = some t) :
    Good K Cl (ρ.set i (some (mt t))) σ (addF F H (As i)) (updA As i non) H ∧ Step true F (Own As) H (addF F H (As i)) (Own (updA As i non)) H := by
  obtain ⟨v, ev, r⟩ := g.rep i _ e
  have fr : ∀ a, As i a → F a = none := fun a h => (g.own h).1
  have g2 := (g.clr i).freeze (A := As i) fr (g.apart i)
  have hl := g.lt e
  have g3 := g2.set (i := i) (m := mt t) (v := v) (A := non) (by rw [List.length_set]; exact hl) ev ⟨fun _ h => h, r.frz ht⟩ (fun _ _ _ h => h.elim)
  rw [List.set_set] at g3
  have ee : updA (updA As i non) i non = updA As i non := by
    funext j
    by_cases hj : j = i
    · subst hj; rw [updA_same, updA_same]
    · rw [updA_ne hj]
  rw [ee] at g3
  refine ⟨g3, (step_freeze (S := Own (updA As i non)) (A := As i) fr).more fun b h => ?_⟩
  rcases h with h | h
  · rcases own_upd b h with q | q
    · exact q
    · exact q.elim
  · exact ⟨i, h⟩
def frz1 (ρ : Slots) (i : Nat) : Slots := match ρ[i]? with
    | some (some (.bx x)) => ρ.set i (some (mt x.frz))
    | some (some (.ob c fs)) => (match frzFs fs with
      | some ts => ρ.set i (some (mt (.ob c ts)))
      | none => ρ)
    | _ => ρ
theorem good_frz1 (g : Good K Cl ρ σ F As H) (i : Nat) : ∃ F' As', Good K Cl (frz1 ρ i) σ F' As' H ∧ Step false F (Own As) H F' (Own As') H := by
  unfold frz1
  split
  · rename_i x e
    obtain ⟨g2, st⟩ := g.frzM e rfl
    exact ⟨_, _, g2, st.weak fun z => by cases z⟩
  · rename_i c fs e
    split
    · rename_i ts q
      obtain ⟨g2, st⟩ := g.frzM (t := .ob c ts) e (by show (frzFs fs).map _ = _; rw [q]; rfl)
      exact ⟨_, _, g2, st.weak fun z => by cases z⟩
    · exact ⟨F, As, g, Step.refl⟩
  · exact ⟨F, As, g, Step.refl⟩
theorem good_frzS : ∀ (is : List Nat) {ρ : Slots} {F : Hp} {As : Nat → AS}, Good K Cl ρ σ F As H → ∃ F' As', Good K Cl (frzS is ρ) σ F' As' H ∧ Step false F (Own As) H F' (Own As') H
  | [], ρ, F, As, g => ⟨F, As, g, Step.refl⟩
  | i :: is, ρ, F, As, g => by
    obtain ⟨F1, A1, g1, st1⟩ := good_frz1 g i
    obtain ⟨F', As', g3, st3⟩ := good_frzS is g1
    exact ⟨F', As', g3, (st1.trans st3).weak fun z => by cases z⟩
theorem s_fz {is : List Nat} {b : S} (h : tS K Cl pin (ex G (.fz is b)) D σ H) : tS K Cl pin (ex G b) D σ H := by
  obtain ⟨ρ, F, As, o, ρ', e, g, k⟩ := h
  obtain ⟨F', As', g2, st⟩ := good_frzS is g
  exact ⟨frzS is ρ, F', As', o, ρ', e, g2, k.go st Pin.refl⟩
theorem s_while {n : Nat} {c : C} {body : S} (h : tS K Cl pin (ex G (.while_ n c body)) D σ H) : tWhile (tCd K Cl (evC G c)) (tS K Cl pin (ex G body)) D σ H := by
  obtain ⟨ρ, F, As, o, ρ', e, g, k⟩ := h
  unfold ex at e
  refine ⟨fun m σ' H' => ∃ ρm Fm Am, whileL (evC G c) (ex G body) m ρm = some (o, ρ') ∧ Good K Cl ρm σ' Fm Am H' ∧ Step false F (Own As) H Fm (Own Am) H' ∧ Pin pin σ σ', ⟨n, ρ, F, As, e, g, Step.refl, Pin.refl⟩, ?_⟩
  rintro m σ2 H2 ⟨ρm, Fm, Am, c1, gg, stt, pp⟩
  cases m with
  | zero => cases c1
  | succ m =>
    unfold whileL at c1
    obtain ⟨b, ρ1, c2, c1⟩ := bnd_some c1
    refine ⟨ρm, Fm, Am, b, ρ1, c2, gg, fun F3 A3 H3 st3 g3 => ?_⟩
    cases b with
    | false =>
      rw [if_neg Bool.false_ne_true] at c1
      cases c1
      exact iteF (k σ2 F3 A3 H3 ((stt.trans st3).weak fun z => by cases z) g3 pp)
    | true =>
      rw [if_pos rfl] at c1
      obtain ⟨o1, ρa, c3, c1⟩ := bnd_some c1
      refine iteT ⟨_, fun σ' H' h => ⟨m, Nat.lt_succ_self m, h⟩, ρ1, F3, A3, o1, ρa, c3, g3, ?_⟩
      have s0 : ∀ {F5 : Hp} {S5 : AS} {H5 : Hp}, Step false F3 (Own A3) H3 F5 S5 H5 → Step false F (Own As) H F5 S5 H5 := fun st5 => ((stt.trans st3).trans st5).weak fun z => by cases z
      have p0 : ∀ {σ5 : St}, Pin pin σ2 σ5 → Pin pin σ σ5 := fun p5 i hi => (p5 i hi).trans (pp i hi)
      cases o1 with
      | next => exact fun σ5 F5 A5 H5 st5 g5 p5 => ⟨ρa, F5, A5, c1, g5, s0 st5, p0 p5⟩
      | cont => exact fun σ5 F5 A5 H5 st5 g5 p5 => ⟨ρa, F5, A5, c1, g5, s0 st5, p0 p5⟩
      | brk =>
        cases c1
        exact fun σ5 F5 A5 H5 st5 g5 p5 => k σ5 F5 A5 H5 (s0 st5) g5 (p0 p5)
      | ret m =>
        cases c1
        exact fun σ5 v F5 A5 A H5 st5 g5 p5 r d => k σ5 v F5 A5 A H5 (s0 st5) g5 (p0 p5) r d
end
end Mk
set_option maxHeartbeats 4000000
/-! Mk: fields stored. -/
namespace Mk
open PySem L2
section
variable {K : PySem.W.Frag} {Cl : Nat → Option ClsI} {F H : Hp} {ρ : Slots} {σ : St} {As : Nat → AS} {G : Gc} {Z : Zs} {sc : Scope} {so : Str → Bool} {X : Cx} {pin : List Nat} {D : Ends}
theorem nodup_len {α : Type} [DecidableEq α] : ∀ {l m : List α}, l.Nodup → (∀ x ∈ l, x ∈ m) → l.length ≤ m.length
  | [], _, _, _ => Nat.zero_le _
  | x :: l, m, nd, h => by
    have hx := h x List.mem_cons_self
    obtain ⟨h1, h2⟩ := List.nodup_cons.mp nd
    have ih := nodup_len (m := m.erase x) h2 fun y hy => (List.mem_erase_of_ne fun e => h1 (by rw [← e]; exact hy)).2 (h y (List.mem_cons_of_mem _ hy))
    rw [List.length_erase_of_mem hx] at ih
    have := List.length_pos_of_mem hx
    rw [List.length_cons]
    omega
theorem keys_put {f : Str} {v : V} : ∀ {vfs : List (Str × V)}, (vfs.map (·.1)).Nodup → ((putF f v vfs).map (·.1)).Nodup ∧ ∀ p ∈ putF f v vfs, p.1 = f ∨ ∃ q ∈ vfs, q.1 = p.1
  | [], _ => ⟨by simp [putF], fun p hp => by
    have : p = (f, v) := by simpa [putF] using hp
    exact .inl (by rw [this])⟩
  | (g, w) :: r, nd => by
    rw [List.map_cons, List.nodup_cons] at nd
    unfold putF
    by_cases hg : g = f
    · rw [if_pos hg]
      refine ⟨by rw [List.map_cons, List.nodup_cons]; exact ⟨nd.1, nd.2⟩, fun p hp => ?_⟩
      rcases List.mem_cons.mp hp with rfl | hp
      · exact .inl hg
      · exact .inr ⟨p, List.mem_cons_of_mem _ hp, rfl⟩
    · rw [if_neg hg]
      obtain ⟨i1, i2⟩ := keys_put (f := f) (v := v) nd.2
      refine ⟨by
        rw [List.map_cons, List.nodup_cons]
        refine ⟨fun hm => ?_, i1⟩
        obtain ⟨p, hp, e⟩ := List.mem_map.mp hm
        rcases i2 p hp with z | ⟨q, hq, z⟩
        · exact hg (e.symm.trans z)
        · exact nd.1 (List.mem_map.mpr ⟨q, hq, z.trans e⟩), fun p hp => ?_⟩
      rcases List.mem_cons.mp hp with rfl | hp
      · exact .inr ⟨_, List.mem_cons_self, rfl⟩
      · rcases i2 p hp with z | ⟨q, hq, z⟩
        · exact .inl z
        · exact .inr ⟨q, List.mem_cons_of_mem _ hq, z⟩
theorem ob_of {i : Nat} {ci : ClsI} {fs : List (Option B)} (h : obOf ρ i ci = some fs) : ρ[i]? = some (some (.ob ci fs)) := by
  unfold obOf at h
  split at h
  · rename_i c fs' e
    split at h
    · rename_i hc; subst hc; cases h; exact e
    · cases h
  · cases h
/-- a field of a slot's object gets a content -/
theorem Good.fput (g : Good K Cl ρ σ F As H) {i f : Nat} {ci : ClsI} {fs : List (Option B)} {a : Str} {x : B} {v : V} {A : AS} (h : obOf ρ i ci = some fs) (hf : ci.fs[f]? = some a) (nd : ci.fs.Nodup) (h9 : ci.fs.length < 900)
    (r : RepB K F H x v A) (d : ∀ b, A b → ¬ Own As b) : ∃ p dx vfs As', σ[i]? = some (some (.ref p)) ∧ H p = some (.ins ci.C dx vfs) ∧ vfs.length < 1000 ∧
      Good K Cl (ρ.set i (some (.ob ci (fs.set f (some x))))) σ F As' (upd H p (.ins ci.C dx (putF a v vfs))) ∧ Step false F ((Own As).or A) H F (Own As') (upd H p (.ins ci.C dx (putF a v vfs))) := by
  have e := ob_of h
  obtain ⟨w, ev', rm⟩ := g.rep i _ e
  obtain ⟨p, dx, vfs, Bs, rfl, hd, f1, f2, ha, ho, hA, n1, n2, hl, hfl, hn, nk, sb⟩ := rm
  have hpA : As i p := (hA p).2 (.inl rfl)
  have hflt : f < ci.fs.length := (List.getElem?_eq_some_iff.mp hf).1
  obtain ⟨H', hH'⟩ : ∃ H', H' = upd H p (.ins ci.C dx (putF a v vfs)) := ⟨_, rfl⟩
  have pA : ¬ A p := fun h => d p h ⟨i, hpA⟩
  have dA : ¬ A dx := fun h => d dx h ⟨i, (hA dx).2 (.inr (.inl rfl))⟩
  have stay : ∀ b o, b ≠ p → H b = some o → H' b = some o := fun b o hb e => by rw [hH', upd_ne hb]; exact e
  obtain ⟨Cs, hCs⟩ : ∃ Cs : Nat → AS, Cs = fun j => if j = f then A else Bs j := ⟨_, rfl⟩
  have Cf : Cs f = A := by rw [hCs]; exact if_pos rfl
  have Cn : ∀ j, j ≠ f → Cs j = Bs j := fun j hj => by rw [hCs]; exact if_neg hj
  obtain ⟨N, hN⟩ : ∃ N : AS, N = fun b => b = p ∨ b = dx ∨ ∃ j, Cs j b := ⟨_, rfl⟩
  have hNi : ∀ b, N b → As i b ∨ A b := fun b hb => by
    rw [hN] at hb
    rcases hb with rfl | rfl | ⟨j, hj⟩
    · exact .inl hpA
    · exact .inl ((hA b).2 (.inr (.inl rfl)))
    · by_cases hjf : j = f
      · subst hjf; rw [Cf] at hj; exact .inr hj
      · rw [Cn j hjf] at hj; exact .inl ((hA b).2 (.inr (.inr ⟨j, hj⟩)))
  obtain ⟨k1, k2⟩ := keys_put (f := a) (v := v) nk
  have look : ∀ y, (putF a v vfs).lookup y = if y = a then some v else vfs.lookup y := fun y => lookup_putF a y v vfs
  have lsz : vfs.length ≤ ci.fs.length := by
    have := nodup_len nk (m := ci.fs) fun x hx => by
      obtain ⟨q, hq, rfl⟩ := List.mem_map.mp hx
      exact sb q hq
    simpa using this
  have rm' : RepM K Cl F H' (.ob ci (fs.set f (some x))) (.ref p) N := by
    refine ⟨p, dx, putF a v vfs, Cs, rfl, hd, f1, f2, by rw [hH', upd_same], stay dx _ hd ho, fun b => by rw [hN], fun j => ?_, fun j k b hne h1 h2 => ?_, by rw [List.length_set]; exact hl, fun j y hy => ?_, fun j hj b hb => ?_, k1, fun q hq => ?_⟩
    · by_cases hjf : j = f
      · subst hjf; rw [Cf]; exact ⟨pA, dA⟩
      · rw [Cn j hjf]; exact n1 j
    · by_cases hjf : j = f
      · by_cases hkf : k = f
        · exact hne (hjf.trans hkf.symm)
        · rw [hjf, Cf] at h1; rw [Cn k hkf] at h2
          exact d b h1 ⟨i, (hA b).2 (.inr (.inr ⟨k, h2⟩))⟩
      · rw [Cn j hjf] at h1
        by_cases hkf : k = f
        · rw [hkf, Cf] at h2
          exact d b h2 ⟨i, (hA b).2 (.inr (.inr ⟨j, h1⟩))⟩
        · rw [Cn k hkf] at h2; exact n2 j k b hne h1 h2
    · rw [look]
      by_cases hjf : j = f
      · subst hjf
        rw [hf] at hy; cases hy
        rw [if_pos rfl, List.getElem?_set_self (by rw [hl]; exact hflt), Cf]
        show RepB K F H' x v A
        exact r.mono (Same.refl F) (fun b hb => (r.own b hb).1) fun b o hb e => stay b o (fun z => pA (by rw [← z]; exact hb)) e
      · have hya : y ≠ a := fun z => by
          subst z
          have h1 := List.getElem?_eq_some_iff.mp hy
          have h2 := List.getElem?_eq_some_iff.mp hf
          exact hjf ((List.getElem_inj (h₀ := h1.1) (h₁ := h2.1) nd).mp (h1.2.trans h2.2.symm))
        rw [if_neg hya, List.getElem?_set_ne (Ne.symm hjf), Cn j hjf]
        have ry := hfl j y hy
        cases e1 : (fs[j]?).getD none with
        | none => rw [e1] at ry; cases e2 : vfs.lookup y with
          | none => rw [e2] at ry; exact ry
          | some w => rw [e2] at ry; exact ry.elim
        | some z => rw [e1] at ry; cases e2 : vfs.lookup y with
          | none => rw [e2] at ry; exact ry.elim
          | some w =>
            rw [e2] at ry
            exact RepB.mono (Same.refl F) (fun b hb => (RepB.own ry b hb).1) (fun b o hb e => stay b o (fun z => (n1 j).1 (by rw [← z]; exact hb)) e) ry
    · by_cases hjf : j = f
      · omega
      · rw [Cn j hjf] at hb; exact hn j hj b hb
    · rcases k2 q hq with z | ⟨q', hq', z⟩
      · rw [z]; exact List.mem_of_getElem? hf
      · rw [← z]; exact sb q' hq'
  refine ⟨p, dx, vfs, updA As i N, ev', ha, by omega, ?_, ?_⟩
  · rw [← hH']
    have g0 := g.clr i
    have g1 : Good K Cl (ρ.set i none) σ F (updA As i non) H' := by
      refine ⟨fun b o e => stay b o (fun z => by rw [z, f1] at e; cases e) (g.same b o e), fun j m e => ?_, g0.out, g0.dis, g0.len⟩
      obtain ⟨w, e2, rj⟩ := g0.rep j m e
      refine ⟨w, e2, rj.mono (Same.refl F) (fun b hb => (rj.own b hb).1) fun b o hb e => stay b o (fun z => ?_) e⟩
      subst z
      by_cases hj : j = i
      · subst hj; rw [updA_same] at hb; exact hb
      · rw [updA_ne hj] at hb; exact g.dis j i b hj hb hpA
    have g2 := g1.set (i := i) (m := .ob ci (fs.set f (some x))) (v := .ref p) (A := N) (by rw [List.length_set]; exact g.lt e) ev' rm' fun j b hj hb h => by
      rw [updA_ne hj] at h
      rcases hNi b hb with z | z
      · exact g.dis i j b (Ne.symm hj) z h
      · exact d b z ⟨j, h⟩
    rw [List.set_set] at g2
    have ee : updA (updA As i non) i N = updA As i N := by
      funext j
      by_cases hj : j = i
      · subst hj; rw [updA_same, updA_same]
      · rw [updA_ne hj, updA_ne hj, updA_ne hj]
    rw [ee] at g2
    exact g2
  · rw [← hH']
    refine ⟨Same.refl F, fun b o e n => stay b o (fun z => n (by rw [z]; exact .inl ⟨i, hpA⟩)) e, fun b hb => ?_, fun _ _ e => .inl e, fun z => by cases z⟩
    rcases own_upd b hb with z | z
    · exact .inl (.inl z)
    · rcases hNi b z with y | y
      · exact .inl (.inl ⟨i, y⟩)
      · exact .inl (.inr y)
theorem frzT {K : PySem.W.Frag} {F H : Hp} {t : T} {v : V} (r : RepT K F t v) : RepB K F H (.fz t) v non := ⟨fun _ h => h, r⟩
theorem s_fput {own : Bool} {i f : Nat} {cn a : Str} {e : E} {I : ClI} (ok : Ok Z G Cl sc so X) (h1 : Z.cl cn = some I) (h2 : I.fs[f]? = some a) (h : tS X.K Cl pin (ex G (.fput own i cn f e)) D σ H) :
    sFld X.K (tVar i) (if own = true then tE X.K Cl e.vs (ev G e) else tF X.K Cl false (fun ρ => f1 (ev G e ρ))) a D σ H := by
  obtain ⟨ρ, F, As, o, ρ', e1, g, k⟩ := h
  unfold ex at e1
  obtain ⟨ci, hc, e1⟩ := obd_some e1
  obtain ⟨q1, q2, q3, q4, q5, q6⟩ := ok.cls cn I ci h1 (clsC_some hc)
  have hfs : ci.fs[f]? = some a := by rw [q1]; exact h2
  have hna := q3 a (List.mem_of_getElem? hfs)
  by_cases ho : own = true
  · rw [if_pos ho] at e1
    unfold sFld
    rw [if_pos ho]
    obtain ⟨m, ρ1, e2, e1⟩ := bnd_some e1
    obtain ⟨x, e3, e1⟩ := obd_some e1
    obtain ⟨fs, e4, e1⟩ := obd_some e1
    split at e1
    · rename_i hlt
      cases e1
      cases m with
      | ob _ _ => cases e3
      | bx x' =>
        cases e3
        refine ⟨ρ, F, As, .bx x, ρ1, e2, g, fun v F1 As1 A H1 st1 g1 r1 d1 => ?_⟩
        obtain ⟨p, dx, vfs, As', ev', hp, hl, g2, st2⟩ := g1.fput e4 hfs q4 q5 r1 d1
        exact ⟨.ref p, ev', p, ci.C, dx, vfs, rfl, hp, q2, hna, hl, k σ F1 As' _ ((st1.trans st2).weak fun z => by cases z) g2 Pin.refl⟩
    · cases e1
  · rw [if_neg ho] at e1
    unfold sFld
    rw [if_neg ho]
    obtain ⟨t, ρ1, e2, e1⟩ := bnd_some e1
    obtain ⟨fs, e4, e1⟩ := obd_some e1
    split at e1
    · rename_i hlt
      cases e1
      refine ⟨ρ, F, As, t, ρ1, e2, g, fun v F1 As1 H1 st1 g1 r1 => ?_⟩
      obtain ⟨p, dx, vfs, As', ev', hp, hl, g2, st2⟩ := g1.fput (x := .fz t) (A := non) e4 hfs q4 q5 (frzT r1) (fun _ h => h.elim)
      exact ⟨.ref p, ev', p, ci.C, dx, vfs, rfl, hp, q2, hna, hl, k σ F1 As' _ ((st1.trans (st2.more fun b (h : (Own As1).or non b) => h.elim id fun z => False.elim z)).weak fun z => by cases z) g2 Pin.refl⟩
    · cases e1
/-- a list in a slot's object's field is changed -/
theorem Good.fwrite (g : Good K Cl ρ σ F As H) {i f : Nat} {ci : ClsI} {fs : List (Option B)} {a : Str} {xs ys : List T} (h : obOf ρ i ci = some fs) (hf : ci.fs[f]? = some a) (nd : ci.fs.Nodup) (hx : lsB (fldAt fs f) = some xs) :
    ∃ p dx vfs l vs, σ[i]? = some (some (.ref p)) ∧ H p = some (.ins ci.C dx vfs) ∧ vfs.lookup a = some (.ref l) ∧ H l = some (.lst vs) ∧ RepTs K F xs vs ∧
      ∀ ws, RepTs K F ys ws → ws.length ≤ sizeLine → Good K Cl (ρ.set i (some (.ob ci (fs.set f (some (.ls ys)))))) σ F As (upd H l (.lst ws)) ∧ Step false F (Own As) H F (Own As) (upd H l (.lst ws)) := by
  have e := ob_of h
  obtain ⟨w, ev', rm⟩ := g.rep i _ e
  obtain ⟨p, dx, vfs, Bs, rfl, hd, f1, f2, ha, ho, hA, n1, n2, hl, hfl, hn, nk, sb⟩ := rm
  have hflt : f < ci.fs.length := (List.getElem?_eq_some_iff.mp hf).1
  have r := hfl f a hf
  have q : (fs[f]?).getD none = some (.ls xs) := by
    have hx : lsB ((fs[f]?).getD none) = some xs := hx
    unfold lsB at hx
    split at hx
    · rename_i y q; cases hx; exact q
    · cases hx
  rw [q] at r
  cases q2 : vfs.lookup a with
  | none => rw [q2] at r; exact r.elim
  | some v =>
    rw [q2] at r
    obtain ⟨l, vs, rfl, hAl, hf', hH, hz, hr⟩ := (show RepB K F H (.ls xs) v (Bs f) from r)
    have hlB : Bs f l := (hAl l).2 rfl
    have hlA : As i l := (hA l).2 (.inr (.inr ⟨f, hlB⟩))
    refine ⟨p, dx, vfs, l, vs, ev', ha, q2, hH, hr, fun ws hw hzw => ⟨?_, step_write ⟨i, hlA⟩ ⟨_, hH⟩⟩⟩
    have st : Step false F (As i) H F (As i) (upd H l (.lst ws)) := step_write hlA ⟨_, hH⟩
    have pl : p ≠ l := fun z => (n1 f).1 (by rw [z]; exact hlB)
    have dl : dx ≠ l := fun z => (n1 f).2 (by rw [z]; exact hlB)
    have rm' : RepM K Cl F (upd H l (.lst ws)) (.ob ci (fs.set f (some (.ls ys)))) (.ref p) (As i) := by
      refine ⟨p, dx, vfs, Bs, rfl, hd, f1, f2, by rw [upd_ne pl]; exact ha, by rw [upd_ne dl]; exact ho, hA, n1, n2, by rw [List.length_set]; exact hl, fun j y hy => ?_, hn, nk, sb⟩
      by_cases hjf : j = f
      · subst hjf
        rw [hf] at hy; cases hy
        rw [List.getElem?_set_self (by rw [hl]; exact hflt), q2]
        show RepB K F _ (.ls ys) (.ref l) (Bs j)
        exact ⟨l, ws, rfl, hAl, hf', upd_same, hzw, hw⟩
      · rw [List.getElem?_set_ne (Ne.symm hjf)]
        have ry := hfl j y hy
        cases e1 : (fs[j]?).getD none with
        | none => rw [e1] at ry; cases e2 : vfs.lookup y with
          | none => rw [e2] at ry; exact ry
          | some w => rw [e2] at ry; exact ry.elim
        | some z => rw [e1] at ry; cases e2 : vfs.lookup y with
          | none => rw [e2] at ry; exact ry.elim
          | some w =>
            rw [e2] at ry
            exact RepB.mono (Same.refl F) (fun b hb => (RepB.own ry b hb).1) (fun b o hb e => by rw [upd_ne fun z => n2 j f b hjf hb (by rw [z]; exact hlB)]; exact e) ry
    have g0 := g.clr i
    have g1 : Good K Cl (ρ.set i none) σ F (updA As i non) (upd H l (.lst ws)) := by
      refine ⟨fun b o e => ?_, fun j m e => ?_, g0.out, g0.dis, g0.len⟩
      · rw [upd_ne fun z => by rw [z, hf'] at e; cases e]; exact g.same b o e
      · obtain ⟨v, ev, r⟩ := g0.rep j m e
        exact ⟨v, ev, (st.held r fun b hb hi => by
          by_cases hj : j = i
          · rw [hj, updA_same] at hb; exact hb
          · rw [updA_ne hj] at hb; exact g.dis j i b hj hb hi).1⟩
    have g2 := g1.set (i := i) (m := .ob ci (fs.set f (some (.ls ys)))) (v := .ref p) (A := As i) (by rw [List.length_set]; exact g.lt e) ev' rm' (fun j a hj ha h => by
      rw [updA_ne hj] at h; exact g.dis i j a (Ne.symm hj) ha h)
    rw [List.set_set] at g2
    have ee : updA (updA As i non) i (As i) = As := by
      funext j
      by_cases hj : j = i
      · subst hj; rw [updA_same]
      · rw [updA_ne hj, updA_ne hj]
    rw [ee] at g2
    exact g2
theorem s_fapp {i f : Nat} {cn a : Str} {e : E} {I : ClI} (ok : Ok Z G Cl sc so X) (h1 : Z.cl cn = some I) (h2 : I.fs[f]? = some a) (h : tS X.K Cl pin (ex G (.fapp i cn f e)) D σ H) :
    tDrop (tBM X.K "list" rAppend (tFld X.K (tVar i) a) (fun σ H Q => tF X.K Cl e.vs (fun ρ => f1 (ev G e ρ)) σ H fun x H1 => Q [x] H1)) D σ H := by
  obtain ⟨ρ, F, As, o, ρ', e1, g, k⟩ := h
  unfold ex at e1
  split at e1
  · rename_i hvs
    obtain ⟨ci, hc, e1⟩ := obd_some e1
    split at e1
    · rename_i hob
      obtain ⟨t, ρ1, e2, e1⟩ := bnd_some e1
      obtain ⟨fs, e3, e1⟩ := obd_some e1
      obtain ⟨xs, e4, e1⟩ := obd_some e1
      split at e1
      · rename_i hn
        cases e1
        obtain ⟨q1, q2, q3, q4, q5, q6⟩ := ok.cls cn I ci h1 (clsC_some hc)
        have hfs : ci.fs[f]? = some a := by rw [q1]; exact h2
        have hna := q3 a (List.mem_of_getElem? hfs)
        obtain ⟨xs0, e0⟩ : ∃ xs0, lsF ρ i ci f = some xs0 := Option.isSome_iff_exists.mp hob
        unfold lsF at e0
        obtain ⟨fs0, e01, e02⟩ := obd_some e0
        obtain ⟨p, dx, vfs, l, vs0, ev0, hp0, lk0, hH0, _, _⟩ := g.fwrite (ys := []) e01 hfs q4 e02
        refine ⟨.ref p, ev0, p, ci.C, dx, vfs, .ref l, rfl, hp0, q2, hna, lk0, .inl ⟨rfl, vs0, SqL.of hH0⟩, ρ, F, As, t, ρ1, e2, g, fun v F1 As1 H1 st1 g1 r1 => ?_⟩
        obtain ⟨p', dx', vfs', l', vs, ev1, hp1, lk1, hH, hr, wr⟩ := g1.fwrite (ys := xs ++ [t]) e3 hfs q4 e4
        rw [ev0] at ev1; cases ev1
        have := st1.pur hvs _ _ hp0
        rw [this] at hp1; cases hp1
        rw [lk0] at lk1; cases lk1
        have hl : vs.length < sizeLine := by rw [← hr.length]; exact hn
        obtain ⟨g3, st3⟩ := wr (vs ++ [v]) (hr.append (.cons r1 .nil)) (by rw [List.length_append]; exact hl)
        exact ⟨l, vs, v, rfl, rfl, hH, hl, k σ F1 As1 _ ((st1.trans st3).weak fun z => by cases z) g3 Pin.refl⟩
      · cases e1
    · cases e1
  · cases e1
theorem snd_fapp {i f : Nat} {cn a x m : Str} {e : E} {v : Expr} {px p2 ap cpos pos : Pos} (ok : Ok Z G Cl sc so X) (hv : varB Z sc i x = true) (hf : fldB Z cn f a = true) (hm : m = "append") (hl : (ap.endLine == cpos.line) = true) (he : chkE Z e sc so v = true) :
    PS X (.Expr (.Call (.Attribute (.Attribute (.Name x px) a p2) m ap) [v] [] cpos) pos) (tS X.K Cl pin (ex G (.fapp i cn f e))) := by
  subst hm
  obtain ⟨I, h1, h2⟩ := fldB_some hf
  have hs : starEach [v] X.env = (false, eval v X.env) :: starEach [] X.env := star_of he
  have pe := pe_bm (cpos := cpos) PySem.F.plainAttrs_list PySem.F.slot_list_append PySem.F.type_list_append (mt_append (X := X)) (pe_fld (pos := p2) (f := a) (ok.name (pos := px) hv) abase_name) (pa_cons (sndE e he ok).pe.kept pa_nil hs) (hs := hs) (hfew := by rw [hs]; rfl) (hline := hl)
  exact (ps_expr pe).imp fun D σ H q => s_fapp ok h1 h2 q
theorem snd_fput {own : Bool} {i f : Nat} {cn a x : Str} {e : E} {v : Expr} {px pos' pos : Pos} (ok : Ok Z G Cl sc so X) (hv : varB Z sc i x = true) (hf : fldB Z cn f a = true) (he : chkE Z e sc so v = true)
    (hs : swapsWith v (some (.Attribute (.Name x px) a pos')) pos.line X.env = pure false) : PS X (.Assign [.Attribute (.Name x px) a pos'] v pos) (tS X.K Cl pin (ex G (.fput own i cn f e))) := by
  obtain ⟨I, h1, h2⟩ := fldB_some hf
  by_cases ho : own = true
  · refine (ps_fld (ok.name (pos := px) hv) (sndE e he ok).pe hs).imp fun D σ H q => ?_
    have := s_fput ok h1 h2 q
    rw [if_pos ho] at this
    exact this
  · refine (ps_fld (ok.name (pos := px) hv) (sndE e he ok).pe.keptN hs).imp fun D σ H q => ?_
    have := s_fput ok h1 h2 q
    rw [if_neg ho] at this
    exact this
end
end Mk
set_option maxHeartbeats 4000000
/-! Mk: what reads as statements of the language is them. -/
namespace Mk
open PySem L2
/-- a comprehension that is stored: on the name's line -/
def lineB (sc : Scope) (py : Pos) (y : Str) : Expr → Bool
  | .ListComp _ _ scope pos => sc.kind == .function && sc.names.lookup y == some .local && py.line == pos.line && !(scope.names.any fun (n, k) => n == y && (k == .local || k == .cell))
  | _ => true
def isComp : Expr → Bool
  | .ListComp _ _ _ _ => true
  | _ => false
def exprB (Z : Zs) (sc : Scope) (so : Str → Bool) (e : E) : List Stmt → Bool
  | [.Expr v _] => chkE Z e sc so v && !isComp v
  | _ => false
/-- no name of the target is a plain local, so that the tuple is made and taken apart -/
def notLoc (sc : Scope) : Expr → Bool
  | .Name x _ => !(sc.names.lookup x == some .local)
  | _ => true
def foldAll : Expr → Bool
  | .Tuple vs _ _ => vs.all (foldedForSure 8)
  | _ => false
def swNone (sc : Scope) (t v : Expr) : Bool := match t with
  | .Tuple ts _ _ => ts.any (notLoc sc) || !isTupE v || foldAll v || decide (4 ≤ ts.length)
  | _ => !isTupE v
def asgB (Z : Zs) (sc : Scope) (so : Str → Bool) (tg : Tg) (e : E) : List Stmt → Bool
  | [.Assign [t] v _] => chkTg Z sc so tg t && chkE Z e sc so v && (match tg, t with
    | .nm _, .Name _ _ => !isComp v || sc.kind == .function
    | .nm _, _ => false
    | _, _ => swNone sc t v)
  | _ => false
def par2B (sc : Scope) (x y : Str) (px py : Pos) (a b : Expr) : Bool :=
  sc.kind == .function && sc.names.lookup x == some .local && sc.names.lookup y == some .local && px.line == py.line && !(x == y) && !(foldedForSure 8 a && foldedForSure 8 b) && !(constantsAlone 8 a && constantsAlone 8 b)
def parB (Z : Zs) (sc : Scope) (so : Str → Bool) (is : List Nat) (es : Es) : List Stmt → Bool
  | [.Assign [.Tuple [.Name x px, .Name y py] _ _] (.Tuple [a, b] _ _) _] => (match is with
    | [i, j] => Z.N[i]? == some x && Z.N[j]? == some y && !(i == j)
    | _ => false) && (match es with
    | .cons ea (.cons eb .nil) => chkE Z ea sc so a && chkE Z eb sc so b
    | _ => false) && par2B sc x y px py a b
  | _ => false
def par3C (sc : Scope) (x y z : Str) (px py pz : Pos) (a b c : Expr) : Bool :=
  sc.kind == .function && sc.names.lookup x == some .local && sc.names.lookup y == some .local && sc.names.lookup z == some .local && px.line == py.line && px.line == pz.line && !(x == y) && !(x == z) && !(y == z) &&
  !(foldedForSure 8 a && foldedForSure 8 b && foldedForSure 8 c) && !(constantsAlone 8 a && constantsAlone 8 b && constantsAlone 8 c)
def par3B (Z : Zs) (sc : Scope) (so : Str → Bool) (is : List Nat) (es : Es) : List Stmt → Bool
  | [.Assign [.Tuple [.Name x px, .Name y py, .Name z pz] _ _] (.Tuple [a, b, c] _ _) _] => (match is with
    | [i, j, l] => Z.N[i]? == some x && Z.N[j]? == some y && Z.N[l]? == some z && !(i == j) && !(i == l) && !(j == l)
    | _ => false) && (match es with
    | .cons ea (.cons eb (.cons ec .nil)) => chkE Z ea sc so a && chkE Z eb sc so b && chkE Z ec sc so c
    | _ => false) && par3C sc x y z px py pz a b c
  | _ => false
def parTB (Z : Zs) (sc : Scope) (so : Str → Bool) (is : List Nat) (es : Es) : List Stmt → Bool
  | [.Assign [.Tuple [x, y] k pt] (.Tuple [a, b] k2 pt2) _] => (match is, es with
    | [i, j], .cons ea (.cons eb .nil) => chkTg Z sc so (.t2 (.nm i) (.nm j)) (.Tuple [x, y] k pt) && chkE Z (.tup (.cons ea (.cons eb .nil))) sc so (.Tuple [a, b] k2 pt2)
    | _, _ => false) && swNone sc (.Tuple [x, y] k pt) (.Tuple [a, b] k2 pt2)
  | _ => false
def putB (Z : Zs) (sc : Scope) (so : Str → Bool) (i : Nat) (k e : E) : List Stmt → Bool
  | [.Assign [.Subscript (.Name x _) ix _] v _] => varB Z sc i x && chkE Z k sc so ix && chkE Z e sc so v
  | _ => false
def appB (Z : Zs) (sc : Scope) (so : Str → Bool) (i : Nat) (e : E) : List Stmt → Bool
  | [.Expr (.Call (.Attribute (.Name x _) m ap) [v] [] pos) _] => varB Z sc i x && m == ("append" : Str) && ap.endLine == pos.line && chkE Z e sc so v
  | _ => false
def retB (Z : Zs) (sc : Scope) (so : Str → Bool) (e : E) : List Stmt → Bool
  | [.Return (some v) _] => chkE Z e sc so v
  | _ => false
def retNB : List Stmt → Bool
  | [.Return none _] => true
  | _ => false
def brkB : List Stmt → Bool
  | [.Break _] => true
  | _ => false
def contB : List Stmt → Bool
  | [.Continue _] => true
  | _ => false
def fputB (Z : Zs) (sc : Scope) (so : Str → Bool) (i : Nat) (cn : Str) (f : Nat) (e : E) : List Stmt → Bool
  | [.Assign [.Attribute (.Name x _) a _] v _] => varB Z sc i x && fldB Z cn f a && chkE Z e sc so v
  | _ => false
def fappB (Z : Zs) (sc : Scope) (so : Str → Bool) (i : Nat) (cn : Str) (f : Nat) (e : E) : List Stmt → Bool
  | [.Expr (.Call (.Attribute (.Attribute (.Name x _) a _) m ap) [v] [] pos) _] => varB Z sc i x && fldB Z cn f a && m == ("append" : Str) && ap.endLine == pos.line && chkE Z e sc so v
  | _ => false
def decB (Z : Zs) (sc : Scope) (so : Str → Bool) (i : Nat) (e : E) : List Stmt → Bool
  | [.AugAssign (.Name x _) .Sub v _] => Z.N[i]? == some x && locB sc x && so x && chkE Z e sc so v
  | _ => false
def passB : List Stmt → Bool
  | [.Pass _] => true
  | _ => false
def ifOf : List Stmt → Option (Expr × List Stmt × List Stmt)
  | [.If t x y _] => some (t, x, y)
  | _ => none
def forOf : List Stmt → Option (Expr × Expr × List Stmt)
  | [.For t i b [] _] => some (t, i, b)
  | _ => none
def whileOf : List Stmt → Option (Expr × List Stmt)
  | [.While t b [] _] => some (t, b)
  | _ => none
def consOf : List Stmt → Option (Stmt × List Stmt)
  | x :: r => some (x, r)
  | _ => none
/-- one statement -/
def S.one : S → Bool
  | .skip => false
  | .seq _ _ => false
  | .fg _ _ => false
  | .fz _ _ => false
  | _ => true
def chkS (Z : Zs) (sc : Scope) (so : Str → Bool) : S → List Stmt → Bool
  | .skip, sts => sts.isEmpty
  | .seq a b, sts => match consOf sts with
    | some (x, r) => a.one && chkS Z sc so a [x] && chkS Z sc so b r
    | none => false
  | .expr e, sts => exprB Z sc so e sts
  | .asg tg e, sts => asgB Z sc so tg e sts
  | .par is es, sts => (parB Z sc so is es sts || par3B Z sc so is es sts) || parTB Z sc so is es sts
  | .put i k e, sts => putB Z sc so i k e sts
  | .app i e, sts => appB Z sc so i e sts
  | .ret e, sts => retB Z sc so e sts
  | .retN, sts => retNB sts
  | .brk, sts => brkB sts
  | .cont, sts => contB sts
  | .never, _ => true
  | .ifs c a b, sts => match ifOf sts with
    | some (t, x, y) => chkC Z c sc so t && chkS Z sc so a x && chkS Z sc so b y
    | none => false
  | .for_ tg it body, sts => match forOf sts with
    | some (t, i, b) => chkI Z it sc so (isTupE t) i && chkTg Z sc so tg t && chkS Z sc so body b
    | none => false
  | .while_ _ c body, sts => match whileOf sts with
    | some (t, b) => chkC Z c sc so t && chkS Z sc so body b
    | none => false
  | .fg _ b, sts => chkS Z sc so b sts
  | .fz _ b, sts => chkS Z sc so b sts
  | .fput _ i cn f e, sts => fputB Z sc so i cn f e sts
  | .fapp i cn f e, sts => fappB Z sc so i cn f e sts
  | .pass, sts => passB sts
  | .dec i e, sts => decB Z sc so i e sts
section
variable {K : PySem.W.Frag} {Cl : Nat → Option ClsI} {F H : Hp} {ρ : Slots} {σ : St} {As : Nat → AS} {G : Gc} {Z : Zs} {sc : Scope} {so : Str → Bool} {X : Cx} {pin : List Nat}
theorem s_pass {D : Ends} (h : tS K Cl pin (ex G .pass) D σ H) : tNext D σ H := by
  obtain ⟨ρ, F, As, o, ρ', e, g, k⟩ := h
  cases e
  exact k σ F As H Step.refl g Pin.refl
theorem s_dec {i : Nat} {e : E} {D : Ends} (hp : G.pin = pin) (h : tS K Cl pin (ex G (.dec i e)) D σ H) : tAug i (tF K Cl false (fun ρ => f1 (ev G e ρ))) (ipI fun a b => a - b) D σ H := by
  obtain ⟨ρ, F, As, o, ρ', e1, g, k⟩ := h
  unfold ex at e1
  obtain ⟨a, h0, e1⟩ := obd_some e1
  obtain ⟨t, ρ1, h1, e1⟩ := bnd_some e1
  obtain ⟨b, h2, e1⟩ := obd_some e1
  obtain ⟨ρ2, h3, e1⟩ := obd_some e1
  cases e1
  have hi : ρ[i]? = some (some (mt (.int a))) := by
    unfold intAt at h0
    split at h0
    · rename_i q; cases h0; exact q
    · cases h0
  obtain ⟨v, ev0, r0⟩ := g.rep i _ hi
  have r0 : RepT K F (.int a) v := r0.2
  cases r0
  refine ⟨.int a, ev0, ρ, F, As, t, ρ1, h1, g, fun w F1 As1 H1 st1 g1 r1 => ?_⟩
  cases int_of h2
  cases r1
  refine ⟨a, b, rfl, rfl, ?_⟩
  unfold setM at h3
  split at h3
  · rename_i hh
    cases h3
    have g2 := g1.store (i := i) (m := mt (.int (a - b))) (v := .int (a - b)) (A := non) hh.1 ⟨fun _ h => h, .int _⟩ (fun _ _ _ h => h.elim)
    refine k _ F1 _ H1 (st1.less fun c hc => (own_upd c hc).elim id fun z => z.elim) g2 fun j hj => ?_
    have hne : i ≠ j := fun z => hh.2 (by rw [z, hp]; exact hj)
    exact List.getElem?_set_ne hne
  · cases h3
theorem not_star {e : Expr} {ir : E} (h : chkE Z ir sc so e = true) : ∀ b p, e ≠ .Starred b p := fun b p q => by
  subst q
  cases ir <;> (unfold chkE at h; cases h)
theorem sw_plain {e : Expr} {ir : E} {t : Option Expr} {l : Nat} {env : Env} (h : chkE Z ir sc so e = true) (hc : isComp e = false) : swapsWith e t l env = pure false := by
  cases e <;> first
    | rfl
    | (cases hc; done)
    | (cases ir <;> (unfold chkE at h; cases h))
theorem sw_not {el : Expr} {gs : List Comprehension} {scope : Scope} {cpos py : Pos} {y : Str} {l : Nat} {env : Env} (hsc : env.scope = sc) (hf : sc.kind = .function) (h : lineB sc py y (.ListComp el gs scope cpos) = false) : swapsWith (.ListComp el gs scope cpos) (some (.Name y py)) l env = pure false := by
  subst hsc
  unfold lineB at h
  have hk : env.blockKind = .function := by unfold Env.blockKind; rw [hf]; rfl
  have e : (env.blockKind == .function && env.kindOf y == some .local && py.line == cpos.line && !(scope.names.any fun (n, k) => n == y && (k == .local || k == .cell))) = false := by
    rw [hk]; rw [hf] at h; exact h
  unfold swapsWith
  simp only [Expr.pos]
  rw [e]
theorem sw_tgt {e t : Expr} {ir : E} {l : Nat} {env : Env} (h : chkE Z ir sc so e = true) (ht : ∀ x p, t ≠ .Name x p) : swapsWith e (some t) l env = pure false := by
  cases e <;> first
    | rfl
    | (cases t <;> first | rfl | exact absurd rfl (ht _ _))
    | (cases ir <;> (unfold chkE at h; cases h))
theorem ss_none {e : Expr} {ts : List Expr} {env : Env} (he : isTupE e = false) : swappedStores ts e env = pure none := by
  cases e <;> first
    | (cases he; done)
    | (cases ts with
       | nil => rfl
       | cons t ts => cases t <;> cases ts <;> rfl)
theorem filt_lt {f : Expr → Option Str} : ∀ {ts : List Expr}, (∃ e ∈ ts, f e = none) → (ts.filterMap f).length < ts.length
  | [], ⟨_, h, _⟩ => by cases h
  | t :: ts, ⟨e, h, q⟩ => by
    rcases List.mem_cons.mp h with rfl | h
    · rw [List.filterMap_cons_none q]
      exact Nat.lt_succ_of_le (List.length_filterMap_le f ts)
    · have ih := filt_lt (f := f) ⟨e, h, q⟩
      cases q2 : f t with
      | none => rw [List.filterMap_cons_none q2]; exact Nat.lt_succ_of_lt ih
      | some y => rw [List.filterMap_cons_some q2]; exact Nat.succ_lt_succ ih
theorem ss_none2 {t v : Expr} {env : Env} (hsc : env.scope = sc) (h : swNone sc t v = true) : swappedStores [t] v env = pure none := by
  by_cases hv : isTupE v = true
  · unfold swNone at h
    split at h
    · rename_i ts k p
      rw [hv] at h
      simp only [Bool.not_true, Bool.or_false, Bool.or_eq_true, decide_eq_true_eq] at h
      cases v <;> first
        | (cases hv; done)
        | skip
      rename_i vs k2 p2
      unfold swappedStores
      rcases h with (h | h) | h
      · obtain ⟨e, he, hn⟩ := List.any_eq_true.mp h
        have key : ∀ (line : Nat), (ts.filterMap fun | .Name id pos => if env.kindOf id == some .local && pos.line == line then some id else none | _ => none).length < ts.length := fun line => by
          refine filt_lt ⟨e, he, ?_⟩
          unfold notLoc at hn
          split at hn
          · rename_i x px
            have hk : (env.kindOf x == some .local) = false := by
              rw [← hsc] at hn
              show (env.scope.names.lookup x == some .local) = false
              simpa using hn
            simp [hk]
          · rfl
        simp only
        split
        · rfl
        · split
          · rfl
          · rw [if_pos]
            rw [Bool.or_eq_true]
            left
            rw [bne_iff_ne]
            exact Nat.ne_of_lt (key _)
      · have h : vs.all (foldedForSure 8) = true := h
        simp only
        split
        · rfl
        · split
          · rfl
          · split
            · rfl
            · simp [h]
      · simp only
        rw [if_pos]
        have n2 : (ts.length == 2) = false := beq_eq_false_iff_ne.mpr (by omega)
        have n3 : (ts.length == 3) = false := beq_eq_false_iff_ne.mpr (by omega)
        rw [n2, n3]
        rfl
    · rw [hv] at h; cases h
  · exact ss_none (by simpa using hv)
theorem snd_par2 {x y : Str} {px py pt : Pos} {a b : Expr} {ea eb : E} {kt k2 : Nat} {pt2 : Pos} {env : Env} (hsc : env.scope = sc) (ha : chkE Z ea sc so a = true) (hb : chkE Z eb sc so b = true) (h : par2B sc x y px py a b = true) :
    env.scope.names.lookup x = some .local ∧ env.scope.names.lookup y = some .local ∧ swappedStores [.Tuple [.Name x px, .Name y py] kt pt] (.Tuple [a, b] k2 pt2) env = pure (some [x, y]) := by
  subst hsc
  unfold par2B at h
  simp only [Bool.and_eq_true, beq_iff_eq, Bool.not_eq_true'] at h
  obtain ⟨⟨⟨⟨⟨⟨h1, h2⟩, h3⟩, h4⟩, h5⟩, h6⟩, h7⟩ := h
  refine ⟨h2, h3, ?_⟩
  have hk : env.blockKind = .function := by unfold Env.blockKind; rw [h1]; rfl
  have kx : env.kindOf x = some .local := h2
  have ky : env.kindOf y = some .local := h3
  have sa : ∀ b p, a ≠ .Starred b p := not_star ha
  have sb : ∀ b' p, b ≠ .Starred b' p := not_star hb
  have h5' : ¬ x = y := by simpa using h5
  have h5'' : ¬ y = x := fun z => h5' z.symm
  unfold swappedStores
  simp [hk, kx, ky, h4, h6, h7, Expr.pos, sa, sb, h5', List.eraseDups]
  intro hne
  exact absurd (by simp [List.eraseDupsBy, List.eraseDupsBy.loop, show (y == x) = false from beq_eq_false_iff_ne.mpr h5'']) hne
theorem s_one {sts : List Stmt} {x : Stmt} {t : TS} (h : sts = [x]) (p : PS X x t) : PSs X sts t ∧ ∀ x, sts = [x] → PS X x t := by
  subst h
  exact ⟨pss_one p, fun y e => by cases e; exact p⟩
theorem asg_tup {tg : Tg} {e : E} {t v : Expr} {pos : Pos} (ok : Ok Z G Cl sc so X) (hp : G.pin = pin) (ht : chkTg Z sc so tg t = true) (hv : chkE Z e sc so v = true) (hn : swNone sc t v = true) (hnm : ∀ i, tg ≠ .nm i) : PS X (.Assign [t] v pos) (tAsg (tF X.K Cl false (fun ρ => f1 (ev G e ρ))) (tG X.K Cl pin tg)) := by
  have hne : ∀ x p, t ≠ .Name x p := fun x p q => by
    subst q
    cases tg with
    | nm i => exact hnm i rfl
    | t2 _ _ => unfold chkTg at ht; cases ht
    | t3 _ _ _ => unfold chkTg at ht; cases ht
    | t4 _ _ _ _ => unfold chkTg at ht; cases ht
  refine ps_asg ((sndE e hv ok).pe.keptN) (snd_tg ok.N ok.nd ok.sc ok.st ok.calm pin ht) (sw_tgt hv hne) (ss_none2 ok.sc hn) ?_
  rw [tgt_star ht]
  rfl
theorem snd_asg {tg : Tg} {e : E} {sts : List Stmt} (ok : Ok Z G Cl sc so X) (hp : G.pin = pin) (h : asgB Z sc so tg e sts = true) : ∃ x, sts = [x] ∧ PS X x (tS X.K Cl pin (ex G (.asg tg e))) := by
  unfold asgB at h
  split at h
  · rename_i t v pos
    refine ⟨_, rfl, ?_⟩
    simp only [Bool.and_eq_true] at h
    obtain ⟨⟨ht, hv⟩, h⟩ := h
    cases tg with
    | t2 a b => exact (asg_tup ok hp ht hv h (fun i q => by cases q)).imp fun D σ H q => s_asgT q hp
    | t3 a b c => exact (asg_tup ok hp ht hv h (fun i q => by cases q)).imp fun D σ H q => s_asgT q hp
    | t4 a b c d => exact (asg_tup ok hp ht hv h (fun i q => by cases q)).imp fun D σ H q => s_asgT q hp
    | nm i =>
      cases t <;> first
        | (cases h; done)
        | skip
      rename_i y py
      unfold chkTg at ht
      simp only [Bool.and_eq_true, beq_iff_eq] at ht
      have hl : L2.Loc X.env.scope y := by rw [ok.sc]; exact loc_of ht.1.2
      have hN : X.N[i]? = some y := by rw [ok.N]; exact ht.1.1
      have nd : X.N.Nodup := by rw [ok.N]; exact ok.nd
      by_cases hc : isComp v = true
      · cases v <;> first
          | (cases hc; done)
          | skip
        rename_i el gs scope cpos
        have h0 := h
        by_cases h : lineB sc py y (.ListComp el gs scope cpos) = true
        · unfold lineB at h
          simp only [Bool.and_eq_true, Bool.not_eq_true'] at h
          have hy : X.env.scope.names.lookup y = some .local := by rw [ok.sc]; exact beq_iff_eq.mp h.1.1.2
          exact ((sndE e hv ok).asg _ _ _ _ rfl hN hy (sw_true (by rw [ok.sc]; exact beq_iff_eq.mp h.1.1.1) hy h.1.2 h.2)).imp fun D σ H q => s_asg q hp
        · exact (ps_set nd hN hl (sndE e hv ok).pe (sw_not ok.sc (by rw [isComp] at h0; simpa using h0) (by simpa using h)) (ok.st y ht.2 hl)).imp fun D σ H q => s_asg q hp
      · exact (ps_set nd hN hl (sndE e hv ok).pe (sw_plain hv (by simpa using hc)) (ok.st y ht.2 hl)).imp fun D σ H q => s_asg q hp
  · cases h
theorem snd_par {is : List Nat} {es : Es} {sts : List Stmt} (ok : Ok Z G Cl sc so X) (hp : G.pin = pin) (h : parB Z sc so is es sts = true) : ∃ x, sts = [x] ∧ PS X x (tS X.K Cl pin (ex G (.par is es))) := by
  unfold parB at h
  split at h
  · rename_i x px y py kt pt a b k2 pt2 pos
    refine ⟨_, rfl, ?_⟩
    rw [Bool.and_eq_true, Bool.and_eq_true] at h
    obtain ⟨⟨h1, h2⟩, h3⟩ := h
    split at h1
    · rename_i i j
      split at h2
      · rename_i ea eb
        simp only [Bool.and_eq_true, beq_iff_eq, Bool.not_eq_true'] at h1 h2
        obtain ⟨hx, hy, hw⟩ := snd_par2 (kt := kt) (k2 := k2) (pt := pt) (pt2 := pt2) ok.sc h2.1 h2.2 h3
        have hpa := pa_two (sndE ea h2.1 ok).pe (sndE eb h2.2 ok).pe (star_of h2.1) (star_of h2.2)
        exact (ps_par ok.calm (by rw [ok.N]; exact ok.nd) (by rw [ok.N]; exact h1.1.1) (by rw [ok.N]; exact h1.1.2) (by simpa using h1.2) hx hy hpa hw).imp fun D σ H q => s_par q hp
      · cases h2
    · cases h1
  · cases h
theorem snd_par3 {x y z : Str} {px py pz pt : Pos} {a b c : Expr} {ea eb ec : E} {kt k2 : Nat} {pt2 : Pos} {env : Env} (hsc : env.scope = sc) (ha : chkE Z ea sc so a = true) (hb : chkE Z eb sc so b = true) (hc : chkE Z ec sc so c = true) (h : par3C sc x y z px py pz a b c = true) :
    env.scope.names.lookup x = some .local ∧ env.scope.names.lookup y = some .local ∧ env.scope.names.lookup z = some .local ∧ swappedStores [.Tuple [.Name x px, .Name y py, .Name z pz] kt pt] (.Tuple [a, b, c] k2 pt2) env = pure (some [x, y, z]) := by
  subst hsc
  unfold par3C at h
  simp only [Bool.and_eq_true, beq_iff_eq, Bool.not_eq_true'] at h
  obtain ⟨⟨⟨⟨⟨⟨⟨⟨⟨⟨h1, h2⟩, h3⟩, h3'⟩, h4⟩, h4'⟩, h5⟩, h51⟩, h52⟩, h6⟩, h7⟩ := h
  refine ⟨h2, h3, h3', ?_⟩
  have hk : env.blockKind = .function := by unfold Env.blockKind; rw [h1]; rfl
  have kx : env.kindOf x = some .local := h2
  have ky : env.kindOf y = some .local := h3
  have kz : env.kindOf z = some .local := h3'
  have sa : ∀ b p, a ≠ .Starred b p := not_star ha
  have sb : ∀ b' p, b ≠ .Starred b' p := not_star hb
  have sc' : ∀ b' p, c ≠ .Starred b' p := not_star hc
  have n1 : ¬ x = y := by simpa using h5
  have n2 : ¬ x = z := by simpa using h51
  have n3 : ¬ y = z := by simpa using h52
  have m1 : (y == x) = false := beq_eq_false_iff_ne.mpr fun q => n1 q.symm
  have m2 : (z == x) = false := beq_eq_false_iff_ne.mpr fun q => n2 q.symm
  have m3 : (z == y) = false := beq_eq_false_iff_ne.mpr fun q => n3 q.symm
  have hd : ([x, y, z] : List Str).eraseDups = [x, y, z] := by simp [List.eraseDups, List.eraseDupsBy, List.eraseDupsBy.loop, m1, m2, m3]
  have h6' : (foldedForSure 8 a && (foldedForSure 8 b && foldedForSure 8 c)) = false := by rw [← Bool.and_assoc]; exact h6
  have h7' : (constantsAlone 8 a && (constantsAlone 8 b && constantsAlone 8 c)) = false := by rw [← Bool.and_assoc]; exact h7
  have l2 : (py.line == px.line) = true := by rw [h4]; simp
  have l3 : (pz.line == px.line) = true := by rw [h4']; simp
  unfold swappedStores
  simp [hk, kx, ky, kz, l2, l3, Expr.pos, sa, sb, sc', hd, ← h4, ← h4']
  simp only [Bool.and_eq_false_iff] at h6' h7'
  split
  · rename_i q; simp_all
  · split
    · rename_i q; simp_all
    · rfl
theorem snd_par3S {is : List Nat} {es : Es} {sts : List Stmt} (ok : Ok Z G Cl sc so X) (hp : G.pin = pin) (h : par3B Z sc so is es sts = true) : ∃ x, sts = [x] ∧ PS X x (tS X.K Cl pin (ex G (.par is es))) := by
  unfold par3B at h
  split at h
  · rename_i x px y py z pz kt pt a b c k2 pt2 pos
    refine ⟨_, rfl, ?_⟩
    rw [Bool.and_eq_true, Bool.and_eq_true] at h
    obtain ⟨⟨h1, h2⟩, h3⟩ := h
    split at h1
    · rename_i i j l
      split at h2
      · rename_i ea eb ec
        simp only [Bool.and_eq_true, beq_iff_eq, Bool.not_eq_true'] at h1 h2
        obtain ⟨hx, hy, hz, hw⟩ := snd_par3 (kt := kt) (k2 := k2) (pt := pt) (pt2 := pt2) ok.sc h2.1.1 h2.1.2 h2.2 h3
        have hpa := pa_three (sndE ea h2.1.1 ok).pe (sndE eb h2.1.2 ok).pe (sndE ec h2.2 ok).pe (star_of h2.1.1) (star_of h2.1.2) (star_of h2.2)
        obtain ⟨⟨⟨⟨⟨i1, i2⟩, i3⟩, i4⟩, i5⟩, i6⟩ := h1
        exact (L2.ps_par3 ok.calm (by rw [ok.N]; exact ok.nd) (by rw [ok.N]; exact i1) (by rw [ok.N]; exact i2) (by rw [ok.N]; exact i3) (by simpa using i4) (by simpa using i5) (by simpa using i6) hx hy hz hpa hw).imp fun D σ H q => s_par3 q hp
      · cases h2
    · cases h1
  · cases h
theorem pg_of (ok : Ok Z G Cl sc so X) {i : Nat} {e : Expr} (h : chkTg Z sc so (.nm i) e = true) : PG X e (gName i) := by
  cases e <;> first
    | (unfold chkTg at h; cases h; done)
    | skip
  rename_i x pos
  unfold chkTg at h
  simp only [Bool.and_eq_true, beq_iff_eq] at h
  have hl : L2.Loc X.env.scope x := by rw [ok.sc]; exact loc_of h.1.2
  exact pg_name (by rw [ok.N]; exact ok.nd) (by rw [ok.N]; exact h.1.1) hl (ok.st x h.2 hl)
theorem snd_parT {is : List Nat} {es : Es} {sts : List Stmt} (ok : Ok Z G Cl sc so X) (hp : G.pin = pin) (h : parTB Z sc so is es sts = true) : ∃ x, sts = [x] ∧ PS X x (tS X.K Cl pin (ex G (.par is es))) := by
  unfold parTB at h
  split at h
  · rename_i x y k pt a b k2 pt2 pos
    refine ⟨_, rfl, ?_⟩
    rw [Bool.and_eq_true] at h
    obtain ⟨h1, hn⟩ := h
    split at h1
    · rename_i i j ea eb
      rw [Bool.and_eq_true] at h1
      obtain ⟨ht, hv⟩ := h1
      have ht0 := ht
      have hv0 := hv
      unfold chkTg at ht0
      rw [Bool.and_eq_true] at ht0
      unfold chkE at hv0
      unfold chkEs at hv0
      rw [Bool.and_eq_true] at hv0
      have hv1 := hv0.2
      unfold chkEs at hv1
      rw [Bool.and_eq_true] at hv1
      have hpa := pa_two (sndE ea hv0.1 ok).pe (sndE eb hv1.1 ok).pe (star_of hv0.1) (star_of hv1.1)
      have sy : assignEach [y] X.env = (false, assign y X.env) :: assignEach [] X.env := tgt_star ht0.2
      have sx : assignEach [x, y] X.env = (false, assign x X.env) :: assignEach [y] X.env := tgt_star ht0.1
      have pg := pg_tup (k := k) (pos := pt) (n := 2) ok.calm (pgs_cons (pg_of ok ht0.1) (pgs_cons (pg_of ok ht0.2) pgs_nil (by rw [sy]; rfl)) (by rw [sx]; rfl)) (by rw [sx, sy]; rfl) (by rw [sx, sy]; rfl)
      have hw : swapsWithSole [.Tuple [x, y] k pt] (.Tuple [a, b] k2 pt2) pos.line X.env = pure false := sw_tgt (t := .Tuple [x, y] k pt) (l := pos.line) (env := X.env) hv fun _ _ q => by cases q
      exact (ps_asg (pos := pos) (pe_tup hpa) pg hw (ss_none2 ok.sc hn) (by rw [tgt_star ht]; rfl)).imp fun D σ H q => s_parT q hp
    · cases h1
  · cases h
theorem snd_put {i : Nat} {k e : E} {sts : List Stmt} (ok : Ok Z G Cl sc so X) (h : putB Z sc so i k e sts = true) : ∃ x, sts = [x] ∧ PS X x (tS X.K Cl pin (ex G (.put i k e))) := by
  unfold putB at h
  split at h
  · rename_i x px ix ipos v pos
    refine ⟨_, rfl, ?_⟩
    simp only [Bool.and_eq_true] at h
    have hg := pg_sub (pos := ipos) (ok.name (pos := px) h.1.1) (sndE k h.1.2 ok).pe.keptN (set_list (X := X)) (by
      cases ix <;> first
        | (intro _; rfl)
        | (have h2 := h.1.2; cases k <;> (unfold chkE at h2; cases h2)))
    have hw : swapsWithSole [.Subscript (.Name x px) ix ipos] v pos.line X.env = pure false := sw_tgt (t := .Subscript (.Name x px) ix ipos) (l := pos.line) (env := X.env) h.2 fun _ _ q => by cases q
    exact (ps_asg (pos := pos) (sndE e h.2 ok).pe.keptN hg hw rfl rfl).imp fun D σ H q => s_put q
  · cases h
theorem snd_app {i : Nat} {e : E} {sts : List Stmt} (ok : Ok Z G Cl sc so X) (h : appB Z sc so i e sts = true) : ∃ x, sts = [x] ∧ PS X x (tS X.K Cl pin (ex G (.app i e))) := by
  unfold appB at h
  split at h
  · rename_i x px m ap v cpos pos
    refine ⟨_, rfl, ?_⟩
    simp only [Bool.and_eq_true] at h
    obtain ⟨⟨⟨h1, h2⟩, h3⟩, h4⟩ := h
    have hm := beq_iff_eq.mp h2
    subst hm
    have hs : starEach [v] X.env = (false, eval v X.env) :: starEach [] X.env := star_of h4
    have pe := pe_bm (cpos := cpos) PySem.F.plainAttrs_list PySem.F.slot_list_append PySem.F.type_list_append (mt_append (X := X)) (ok.name (pos := px) h1) (pa_cons (sndE e h4 ok).pe.keptN pa_nil hs) (hs := hs) (hfew := by rw [hs]; rfl) (hline := h3)
    exact (ps_expr pe).imp fun D σ H q => s_app q
  · cases h
theorem sndS (ok : Ok Z G Cl sc so X) (hp : G.pin = pin) (hpo : PassesOwn (model X.prog X.w) X.A X.env X.xe) : ∀ (s : S) {sts : List Stmt}, chkS Z sc so s sts = true → PSs X sts (tS X.K Cl pin (ex G s)) ∧ (s.one = true → ∀ x, sts = [x] → PS X x (tS X.K Cl pin (ex G s)))
  | .skip, sts, h => by
    cases sts with
    | nil => exact ⟨pss_nil.imp fun D σ H q => s_skip q, fun z => by cases z⟩
    | cons _ _ => cases h
  | .seq a b, sts, h => by
    cases sts with
    | nil => cases h
    | cons x r =>
      have h : (a.one && chkS Z sc so a [x] && chkS Z sc so b r) = true := h
      simp only [Bool.and_eq_true] at h
      exact ⟨(pss_cons ((sndS ok hp hpo a h.1.2).2 h.1.1 x rfl) (sndS ok hp hpo b h.2).1).imp fun D σ H q => s_seq q, fun z => by cases z⟩
  | .expr e, sts, h => by
    have h : exprB Z sc so e sts = true := h
    unfold exprB at h
    split at h
    · simp only [Bool.and_eq_true, Bool.not_eq_true'] at h
      exact (s_one rfl ((ps_expr (sndE e h.1 ok).pe (sw_plain h.1 h.2)).imp fun D σ H q => s_expr q)).imp id fun z _ => z
    · cases h
  | .asg tg e, sts, h => by
    obtain ⟨x, e1, p⟩ := snd_asg (pin := pin) ok hp h
    exact (s_one e1 p).imp id fun z _ => z
  | .par is es, sts, h => by
    have h : ((parB Z sc so is es sts || par3B Z sc so is es sts) || parTB Z sc so is es sts) = true := h
    rw [Bool.or_eq_true, Bool.or_eq_true] at h
    obtain ⟨x, e1, p⟩ := h.elim (fun h => h.elim (fun h => snd_par (pin := pin) ok hp h) (fun h => snd_par3S (pin := pin) ok hp h)) (fun h => snd_parT (pin := pin) ok hp h)
    exact (s_one e1 p).imp id fun z _ => z
  | .put i k e, sts, h => by
    obtain ⟨x, e1, p⟩ := snd_put (pin := pin) ok h
    exact (s_one e1 p).imp id fun z _ => z
  | .app i e, sts, h => by
    obtain ⟨x, e1, p⟩ := snd_app (pin := pin) ok h
    exact (s_one e1 p).imp id fun z _ => z
  | .ret e, sts, h => by
    have h : retB Z sc so e sts = true := h
    unfold retB at h
    split at h
    · refine (s_one rfl ?_).imp id fun z _ => z
      by_cases hs : ∃ i, e.slot? = some i ∧ i ∉ G.pin
      · obtain ⟨i, h1, h2⟩ := hs
        exact (ps_ret (slotv ok h i h1)).imp fun D σ H q => s_retV h1 h2 hp q
      · exact (ps_ret (sndE e h ok).pe).imp fun D σ H q => s_retE (fun i q => Classical.byContradiction fun z => hs ⟨i, q, z⟩) q
    · cases h
  | .retN, sts, h => by
    have h : retNB sts = true := h
    unfold retNB at h
    split at h
    · exact (s_one rfl (ps_retN.imp fun D σ H q => s_retN q)).imp id fun z _ => z
    · cases h
  | .brk, sts, h => by
    have h : brkB sts = true := h
    unfold brkB at h
    split at h
    · exact (s_one rfl (ps_break.imp fun D σ H q => s_brk q)).imp id fun z _ => z
    · cases h
  | .cont, sts, h => by
    have h : contB sts = true := h
    unfold contB at h
    split at h
    · exact (s_one rfl (ps_continue.imp fun D σ H q => s_cont q)).imp id fun z _ => z
    · cases h
  | .never, sts, h => ⟨pss_never.imp fun D σ H q => s_never q, fun _ x _ => ps_never.imp fun D σ H q => s_never q⟩
  | .ifs c a b, sts, h => by
    unfold chkS at h
    split at h
    · rename_i t x y q
      simp only [Bool.and_eq_true] at h
      have ia := (sndS ok hp hpo a h.1.2).1
      have ib := (sndS ok hp hpo b h.2).1
      unfold ifOf at q
      split at q
      · cases q
        exact (s_one rfl ((ps_if (sndC c h.1.1 ok).pt ia ib).imp fun D σ H q => s_if q)).imp id fun z _ => z
      · cases q
    · cases h
  | .for_ tg it body, sts, h => by
    unfold chkS at h
    split at h
    · rename_i t i b q
      simp only [Bool.and_eq_true] at h
      have ib := (sndS ok hp hpo body h.2).1
      unfold forOf at q
      split at q
      · cases q
        exact (s_one rfl ((ps_for hpo ok.calm (sndI it h.1.1 ok) (snd_tg ok.N ok.nd ok.sc ok.st ok.calm pin h.1.2) ib (fold_it h.1.1)).imp fun D σ H q => s_for hp q)).imp id fun z _ => z
      · cases q
    · cases h
  | .while_ n c body, sts, h => by
    unfold chkS at h
    split at h
    · rename_i t b q
      simp only [Bool.and_eq_true] at h
      have ib := (sndS ok hp hpo body h.2).1
      unfold whileOf at q
      split at q
      · cases q
        exact (s_one rfl ((ps_while hpo (sndC c h.1 ok).pt ib).imp fun D σ H q => s_while q)).imp id fun z _ => z
      · cases q
    · cases h
  | .fg is b, sts, h => ⟨(sndS ok hp hpo b h).1.imp fun D σ H q => s_fg q, fun z => by cases z⟩
  | .fz is b, sts, h => ⟨(sndS ok hp hpo b h).1.imp fun D σ H q => s_fz q, fun z => by cases z⟩
  | .fput own i cn f e, sts, h => by
    have h : fputB Z sc so i cn f e sts = true := h
    unfold fputB at h
    split at h
    · rename_i x px a p2 v pos
      simp only [Bool.and_eq_true] at h
      exact (s_one rfl (snd_fput (own := own) ok h.1.1 h.1.2 h.2 (sw_tgt h.2 fun _ _ z => by cases z))).imp id fun z _ => z
    · cases h
  | .fapp i cn f e, sts, h => by
    have h : fappB Z sc so i cn f e sts = true := h
    unfold fappB at h
    split at h
    · rename_i x px a p2 m ap v cpos pos
      simp only [Bool.and_eq_true] at h
      exact (s_one rfl (snd_fapp ok h.1.1.1.1 h.1.1.1.2 (beq_iff_eq.mp h.1.1.2) h.1.2 h.2)).imp id fun z _ => z
    · cases h
  | .pass, sts, h => by
    have h : passB sts = true := h
    unfold passB at h
    split at h
    · exact (s_one rfl (ps_pass.imp fun D σ H q => s_pass q)).imp id fun z _ => z
    · cases h
  | .dec i e, sts, h => by
    have h : decB Z sc so i e sts = true := h
    unfold decB at h
    split at h
    · rename_i x px v pos h0
      simp only [Bool.and_eq_true, beq_iff_eq] at h
      obtain ⟨⟨⟨h1, h2⟩, h3⟩, h4⟩ := h
      have hl : L2.Loc X.env.scope x := by rw [ok.sc]; exact loc_of h2
      exact (s_one rfl ((ps_aug (by rw [ok.N]; exact ok.nd) (by rw [ok.N]; exact h1) hl (sndE e h4 ok).pe.keptN ip_sub (ok.st x h3 hl)).imp fun D σ H q => s_dec hp q)).imp id fun z _ => z
    · cases h
end
end Mk
set_option maxHeartbeats 4000000
/-! Mk: a def's promise, from its reading; several defs, each of which calls those ahead of it. -/
namespace Mk
open PySem PySem.Spec PyProof.Rows L2
/-- what was lent stands there at the end -/
def lentOk : List Bool → Slots → Bool
  | [], _ => true
  | false :: mu, _ :: ρ => lentOk mu ρ
  | true :: mu, some _ :: ρ => lentOk mu ρ
  | _, _ => false
def pinsOf : Nat → List Bool → List Nat
  | _, [] => []
  | i, true :: mu => i :: pinsOf (i + 1) mu
  | i, false :: mu => pinsOf (i + 1) mu
/-- a def: which parameters are lent to it, how many names, its body -/
structure Df where
  mu : List Bool
  n : Nat
  body : S
/-- a def's run: its parameters, its other names, its body -/
def run (G : Gc) (d : Df) (ms : List M) : Option (M × Slots) :=
  bnd (ex G d.body (ms.map some ++ List.replicate (d.n - ms.length) none)) fun o ρ => if lentOk d.mu ρ = true then (match o with
    | .next => some (mt .non, ρ.take ms.length)
    | .ret m => some (m, ρ.take ms.length)
    | _ => none) else none
abbrev Cons := Str → Option T
abbrev Tab := Str → Option Fn
def Tab.none : Tab := fun _ => Option.none
def Tab.up (fns : Tab) (x : Str) (F : Fn) : Tab := fun y => if y = x then some F else fns y
def Df.gc (d : Df) (cs : Cons) (fns : Tab) : Gc := ⟨cs, fns, pinsOf 0 d.mu⟩
def Df.fn (d : Df) (cs : Cons) (fns : Tab) : Fn := ⟨d.mu, run (d.gc cs fns) d⟩
theorem lent_get : ∀ {mu : List Bool} {ρ : Slots} {i : Nat}, lentOk mu ρ = true → mu[i]? = some true → ∃ m, ρ[i]? = some (some m)
  | [], _, i, _, h => by cases h
  | false :: mu, [], _, h, _ => by cases h
  | true :: mu, [], _, h, _ => by cases h
  | true :: mu, none :: ρ, _, h, _ => by cases h
  | false :: mu, _ :: ρ, 0, _, h => by cases h
  | true :: mu, some m :: ρ, 0, _, _ => ⟨m, rfl⟩
  | false :: mu, _ :: ρ, i + 1, h, e => lent_get (mu := mu) (ρ := ρ) (i := i) h e
  | true :: mu, some _ :: ρ, i + 1, h, e => lent_get (mu := mu) (ρ := ρ) (i := i) h e
theorem pins_get : ∀ {mu : List Bool} {j i : Nat}, mu[i]? = some true → j + i ∈ pinsOf j mu
  | [], _, _, h => by cases h
  | true :: mu, j, 0, _ => by simp [pinsOf]
  | false :: mu, _, 0, h => by cases h
  | true :: mu, j, i + 1, h => by
    have := pins_get (mu := mu) (j := j + 1) (i := i) h
    rw [show j + 1 + i = j + (i + 1) by omega] at this
    exact List.mem_cons_of_mem _ this
  | false :: mu, j, i + 1, h => by
    have := pins_get (mu := mu) (j := j + 1) (i := i) h
    rw [show j + 1 + i = j + (i + 1) by omega] at this
    exact this
/-- what stands behind the top, seen from every def: the constants, the defs fns -/
structure GOk (P : Program) (w : World) (K : PySem.W.Frag) (mg : Str → Option Value) (base : Heap) (Cl : Nat → Option ClsI) (Z : Zs) (cs : Cons) (fns : Tab) (k : Nat) : Prop where
  bl : ∀ x ∈ Z.bl, mg x = none
  cls : ∀ (cn : Str) (I : ClI) (ci : ClsI), Z.cl cn = some I → cs cn = some (.cl ci) → ci.fs = I.fs ∧ Cls K ci.C ∧ (∀ f ∈ ci.fs, NoAttr K ci.C f) ∧ ci.fs.Nodup ∧ ci.fs.length < 900 ∧ mg cn = some (.ref ci.C)
  mts : ∀ (j : Str) (I : MtI) (F : Fn) (ci : ClsI), Z.mt j = some I → fns j = some F → cs I.cn = some (.cl ci) → ∃ f fd, (I.m = "__init__" → L2.Mk K ci.C f) ∧ (I.m ≠ "__init__" → Meth K ci.C I.m f ∧ I.m ∉ ci.fs) ∧
    Binds K fd I.ps [] ∧ F.mu.length = I.ps.length ∧ FnOk P w K mg base CX0 k f fd I.ps (spOf K Cl F I.ps.length)
  cs : ∀ (x : Str) (t : T), Z.consts.contains x = true → cs x = some t → ∃ u v, mg x = some u ∧ RelV v u ∧ RepT K (fun _ => none) t v
  fns : ∀ (j : Str) (I : FnI) (F : Fn), Z.fn j = some I → fns j = some F → ∃ f fd, mg I.name = some (.ref f) ∧ PySem.W.keepIn K (.ref f) = true ∧ Binds K fd I.ps [] ∧ F.mu.length = I.ps.length ∧
    (∀ ks perm, (ks, perm) ∈ I.kws → ks.length = I.ps.length ∧ perm.length = I.ps.length ∧ (∀ i ∈ perm, i < ks.length) ∧ ∀ (s : Shared) (ws : List Value), K.In s.heap → ws.length = ks.length → BindsTo s fd ⟨[], ks.zip ws⟩ (I.ps.zip (perm.map fun i => ws.getD i .none))) ∧
    FnOk P w K mg base CX0 k f fd I.ps (spOf K Cl F I.ps.length)
section
variable {P : Program} {w : World} {K : PySem.W.Frag} {mg : Str → Option Value} {base : Heap} {Cl : Nat → Option ClsI} {Z : Zs} {cs : Cons} {fns : Tab} {k : Nat}
theorem ok_of (g : GOk P w K mg base Cl Z cs fns k) {N : List Str} (nd : N.Nodup) {qual : Str} {sc : Scope} {f : Addr} {cdv : Value} {A : Around} {outer : List Env} {s : Shared} {H : Hp} {E : XK} {pin : List Nat} (hr : Room (k + 1) (A.deeper (envOfC qual sc s.heap.objs.size f cdv))) :
    Ok { Z with N := N } ⟨cs, fns, pin⟩ Cl sc (fun _ => true) (cxOf CX0 P w K mg base N qual sc f cdv A outer s H E).nox :=
  ⟨rfl, rfl, nd, rfl, fun _ _ _ => .inl rfl, g.bl, g.cs, fun j I F h1 h2 => by
    obtain ⟨f, fd, a1, a2, a3, a4, a5, a6⟩ := g.fns j I F h1 h2
    exact ⟨f, fd, k, hr.mono (Nat.le_succ k), a1, a2, a3, a4, a5, a6⟩, hr.units, g.cls, fun j I F ci h1 h2 h3 => by
    obtain ⟨f, fd, a1, a2, a3, a4, a5⟩ := g.mts j I F ci h1 h2 h3
    exact ⟨f, fd, k, hr, a1, a2, a3, a4, a5⟩⟩
theorem start_get {N : List Str} {vs : List V} {i : Nat} {v : V} (h : vs[i]? = some v) : (L2.start N vs)[i]? = some (some v) := by
  unfold L2.start
  rw [List.getElem?_append_left (by rw [List.length_map]; exact (List.getElem?_eq_some_iff.mp h).1), List.getElem?_map, h]
  rfl
theorem def_ok (g : GOk P w K mg base Cl Z cs fns k) {x qual : Str} {st : Stmt} {f : Addr} {fd : FuncData} {N ps : List Str} (Fu : Fun K x qual st f fd) (S : FnScope N ps (defScope st)) {d : Df} (hn : d.n = N.length)
    (hb : chkS { Z with N := N } (defScope st) (fun _ => true) d.body (defBody st) = true) : FnOk P w K mg base CX0 (k + 2) f fd ps (spOf K Cl (d.fn cs fns) ps.length) := by
  refine Fu.ok (k := k + 1) S (fun vs H Q E h => h.1) (fun cdv A outer s H vs Q E hr h => ?_)
  obtain ⟨hvl, F0, As, ms, m, ms', hrun, hml, hmu, hsame, hrep, hdis, hout, hfz, hk⟩ := h
  have hlen : ps.length ≤ N.length := by
    have := S.pre
    rw [← this, List.length_take]
    omega
  refine ⟨_, (sndS (G := d.gc cs fns) (pin := pinsOf 0 d.mu) (ok_of g S.nd hr) rfl PassesOwn.never d.body hb).1, ?_⟩
  have hrun : run (d.gc cs fns) d ms = some (m, ms') := hrun
  unfold run at hrun
  obtain ⟨o, ρ', e1, e2⟩ := bnd_some hrun
  split at e2
  · rename_i hlent
    have hl0 : (ms.map some ++ List.replicate (d.n - ms.length) none : Slots).length = N.length := by
      rw [List.length_append, List.length_map, List.length_replicate, hn, hml]; omega
    have hg : Good K Cl (ms.map some ++ List.replicate (d.n - ms.length) none) (L2.start N vs) F0 As H := by
      refine ⟨hsame, fun i mi e => ?_, fun i h => ?_, hdis, ?_⟩
      · by_cases hi : i < ms.length
        · rw [List.getElem?_append_left (by rw [List.length_map]; exact hi), List.getElem?_map] at e
          cases q : ms[i]? with
          | none => rw [q] at e; cases e
          | some y =>
            rw [q] at e; cases e
            obtain ⟨v, ev, r⟩ := hrep i mi q
            exact ⟨v, start_get ev, r⟩
        · rw [List.getElem?_append_right (by rw [List.length_map]; omega)] at e
          obtain ⟨h1, h2⟩ := List.getElem?_eq_some_iff.mp e
          rw [List.getElem_replicate] at h2
          cases h2
      · by_cases hi : i < ms.length
        · refine absurd ?_ (h ms[i])
          rw [List.getElem?_append_left (by rw [List.length_map]; exact hi), List.getElem?_map, List.getElem?_eq_getElem hi]
          rfl
        · exact hout i (by omega)
      · rw [hl0]
        unfold L2.start
        rw [List.length_append, List.length_map, List.length_replicate]; omega
    -- what was lent, behind the body
    let keep : (Nat → AS) → Nat → AS := fun As' i => fun a => d.mu[i]? = some true ∧ As' i a
    have fin : ∀ (o : M) (v : V) (σ' : L2.St) (F' : Hp) (As' : Nat → AS) (A : AS) (H' : Hp), m = o → ms' = ρ'.take ms.length → Step false F0 (Own As) H F' ((Own As').or A) H' → Good K Cl ρ' σ' F' As' H' → Pin (pinsOf 0 d.mu) (L2.start N vs) σ' → RepM K Cl F' H' o v A → (∀ a, A a → ¬ Own As' a) → Q v H' := by
      intro o v σ' F' As' A H' em ems st2 g2 p2 r2 d2
      subst em
      have own : ∀ a, Own (keep As') a → Own As' a := fun a ⟨i, h⟩ => ⟨i, h.2⟩
      refine hk v F' (keep As') A H' (st2.less fun b h => h.imp (own b) id) g2.same r2 (fun i j a hne h1 h2 => g2.dis i j a hne h1.2 h2.2) (fun a ha h => d2 a ha (own a h)) (fun i hi => ?_) fun i hi a ha => hi ha.1
      obtain ⟨mi, hmi⟩ := lent_get hlent hi
      have hi1 : i < ms.length := by
        have h1 := (List.getElem?_eq_some_iff.mp hi).1
        have h2 : d.mu.length = ps.length := hmu
        omega
      have hiv : i < vs.length := by rw [hvl]; omega
      obtain ⟨v', ev', r'⟩ := g2.rep i mi hmi
      have hp := p2 i (by have q := pins_get (mu := d.mu) (j := 0) hi; rw [Nat.zero_add] at q; exact q)
      rw [start_get (List.getElem?_eq_getElem hiv)] at hp
      rw [ev'] at hp
      cases hp
      refine ⟨mi, vs[i], by rw [ems, List.getElem?_take_of_lt hi1]; exact hmi, List.getElem?_eq_getElem hiv, ?_⟩
      have : keep As' i = As' i := by
        funext a
        exact propext ⟨fun h => h.2, fun h => ⟨hi, h⟩⟩
      rw [this]
      exact r'
    refine ⟨_, F0, As, o, ρ', e1, hg, ?_⟩
    cases o with
    | next =>
      cases e2
      exact fun σ' F' As' H' st2 g2 p2 => fin _ .non σ' F' As' non H' rfl rfl (st2.less fun b h => h.elim id fun z => z.elim) g2 p2 ⟨fun _ h => h, .non⟩ fun _ h => h.elim
    | brk => cases e2
    | cont => cases e2
    | ret m2 =>
      cases e2
      exact fun σ' v F' As' A H' st2 g2 p2 r2 d2 => fin _ v σ' F' As' A H' rfl rfl st2 g2 p2 r2 d2
  · cases e2
theorem GOk.mono (g : GOk P w K mg base Cl Z cs fns k) {j : Nat} (h : k ≤ j) : GOk P w K mg base Cl Z cs fns j :=
  ⟨g.bl, g.cls, fun i I F ci h1 h2 h3 => by
    obtain ⟨f, fd, a1, a2, a3, a4, a5⟩ := g.mts i I F ci h1 h2 h3
    exact ⟨f, fd, a1, a2, a3, a4, a5.mono h⟩, g.cs, fun i I F h1 h2 => by
    obtain ⟨f, fd, a1, a2, a3, a4, a5, a6⟩ := g.fns i I F h1 h2
    exact ⟨f, fd, a1, a2, a3, a4, a5, a6.mono h⟩⟩
/-- what is known of one method of the text -/
structure DOkM (K : PySem.W.Frag) (cs : Cons) (Z : Zs) (I : MtI) (N : List Str) (st : Stmt) (d : Df) : Prop where
  ex : ∀ ci, cs I.cn = some (.cl ci) → ∃ f fd qual, (I.m = "__init__" → L2.Mk K ci.C f) ∧ (I.m ≠ "__init__" → Meth K ci.C I.m f ∧ I.m ∉ ci.fs) ∧ Fun K I.m qual st f fd ∧ Binds K fd I.ps []
  S : FnScope N I.ps (defScope st)
  n : d.n = N.length
  mu : d.mu.length = I.ps.length
  body : chkS { Z with N := N } (defScope st) (fun _ => true) d.body (defBody st) = true
/-- what is known of one def of the text -/
structure DOk (K : PySem.W.Frag) (mg : Str → Option Value) (Z : Zs) (I : FnI) (N : List Str) (st : Stmt) (d : Df) : Prop where
  ex : ∃ f fd, mg I.name = some (.ref f) ∧ PySem.W.keepIn K (.ref f) = true ∧ Fun K I.name I.name st f fd ∧ Binds K fd I.ps [] ∧
    (∀ ks perm, (ks, perm) ∈ I.kws → ks.length = I.ps.length ∧ perm.length = I.ps.length ∧ (∀ i ∈ perm, i < ks.length) ∧ ∀ (s : Shared) (ws : List Value), K.In s.heap → ws.length = ks.length → BindsTo s fd ⟨[], ks.zip ws⟩ (I.ps.zip (perm.map fun i => ws.getD i .none)))
  S : FnScope N I.ps (defScope st)
  n : d.n = N.length
  mu : d.mu.length = I.ps.length
  body : chkS { Z with N := N } (defScope st) (fun _ => true) d.body (defBody st) = true
/-- the law's promise -/
def spLaw (K : PySem.W.Frag) : Sp := fun vs H Q _ => ∃ (a : Addr) (ns : List Int), vs = [.ref a] ∧ SqL K H a (ns.map V.int) ∧ ns.length ≤ 63 ∧ ∀ H', Q (.bl true) H'
theorem law_ok {f : Addr} {fd : FuncData} {x : Str} {F : Fn} (h : FnOk P w K mg base CX0 k f fd [x] (spOf K Cl F 1)) (hm : F.mu = [false]) (hs : ∀ ns : List Int, ns.length ≤ 63 → ∃ ms', F.sem [mt (.rd ns)] = some (mt (.bl true), ms')) : FnOk P w K mg base CX0 k f fd [x] (spLaw K) := by
  refine h.imp fun vs H Q E q => ?_
  obtain ⟨a, ns, rfl, hS, hl, hQ⟩ := q
  obtain ⟨ms', e⟩ := hs ns hl
  have one : Same (fun b => if b = a then H a else none) H := fun b o e => by
    by_cases hb : b = a
    · subst hb
      have e : (if b = b then H b else none) = some o := e
      rw [if_pos rfl] at e; exact e
    · have e : (if b = a then H a else none) = some o := e
      rw [if_neg hb] at e; cases e
  have fr : ∃ F0 : Hp, Same F0 H ∧ SqL K F0 a (ns.map V.int) := by
    rcases hS with (h1 | ⟨o, h1⟩) | h1
    · exact ⟨_, one, .inl (.inl ((if_pos rfl).trans h1))⟩
    · exact ⟨_, one, .inl (.inr ⟨o, (if_pos rfl).trans h1⟩)⟩
    · exact ⟨_, one, .inr h1⟩
  obtain ⟨F0, s0, q0⟩ := fr
  refine ⟨rfl, F0, fun _ => non, _, _, ms', e, rfl, by rw [hm]; rfl, s0, fun i mi hi => ?_, fun _ _ _ _ h => h.elim, fun _ _ _ h => h, fun i hi => ?_, fun v F' As' A H' _ _ r _ _ _ _ => ?_⟩
  · cases i with
    | zero => cases hi; exact ⟨_, rfl, fun _ h => h, .rd q0 (Nat.le_trans hl (by decide))⟩
    | succ i => cases hi
  · cases i with
    | zero => exact ⟨_, rfl⟩
    | succ i => rw [hm] at hi; cases hi
  · obtain ⟨_, r⟩ := (show RepB K F' H' (.fz (.bl true)) v A from r)
    cases r
    exact hQ H'
end
end Mk
/-! Mk: the run of a text, by simp. -/
namespace Mk
open PySem L2
/-! operations -/
@[simp] theorem ps_isb (a b : Bool) : primSem .isb [.bl a, .bl b] = some (mt (.bl (decide (a = b)))) := id rfl
@[simp] theorem ps_notb (a b : Bool) : primSem .notb [.bl a, .bl b] = some (mt (.bl (!decide (a = b)))) := id rfl
@[simp] theorem ps_revt (xs : List T) : primSem .rev [.tup xs] = some (mt (.tup xs.reverse)) := id rfl
@[simp] theorem ps_revl (xs : List T) : primSem .rev [.lst xs] = some (.bx (.ls xs.reverse)) := id rfl
theorem ps_inn (a b : T) : primSem .inn [a, b] = (pIn a b).map fun c => mt (.bl c) := id rfl
theorem ps_nin (a b : T) : primSem .nin [a, b] = (pIn a b).map fun c => mt (.bl (!c)) := id rfl
@[simp] theorem ps_add (a b : Int) : primSem .add [.int a, .int b] = some (mt (.int (a + b))) := id rfl
@[simp] theorem ps_sub (a b : Int) : primSem .sub [.int a, .int b] = some (mt (.int (a - b))) := id rfl
@[simp] theorem ps_neg (a : Int) : primSem .neg [.int a] = some (mt (.int (-a))) := id rfl
theorem ps_mul {a b : Int} (h : smallI a = true ∨ smallI b = true) : primSem .mul [.int a, .int b] = some (mt (.int (a * b))) := if_pos (.inl h)
theorem ps_mulm {a b : Int} (h : a.natAbs < 2 ^ 4096) (h2 : b.natAbs < 2 ^ 4096) : primSem .mul [.int a, .int b] = some (mt (.int (a * b))) := if_pos (.inr ⟨decide_eq_true h, decide_eq_true h2⟩)
theorem ps_fdivm {a b : Int} (h : 0 < b) (h2 : b.natAbs < 2 ^ 4096) : primSem .fdiv [.int a, .int b] = some (mt (.int (a / b))) := if_pos ⟨h, decide_eq_true h2⟩
theorem ps_mul1 {a b : Int} (h : -18446744073709551616 < a ∧ a < 18446744073709551616) : primSem .mul [.int a, .int b] = some (mt (.int (a * b))) := ps_mul (.inl (decide_eq_true h))
theorem ps_mul2 {a b : Int} (h : -18446744073709551616 < b ∧ b < 18446744073709551616) : primSem .mul [.int a, .int b] = some (mt (.int (a * b))) := ps_mul (.inr (decide_eq_true h))
theorem ps_fdiv {a b : Int} (h : 0 < b) (h2 : b < 1073741824) : primSem .fdiv [.int a, .int b] = some (mt (.int (a / b))) := ps_fdivm h (Nat.lt_of_lt_of_le (show b.natAbs < 2 ^ 30 by omega) (Nat.pow_le_pow_right (by decide) (by decide)))
theorem ps_mod {a b : Int} (h : 0 < b) : primSem .mod [.int a, .int b] = some (mt (.int (a % b))) := if_pos h
@[simp] theorem ps_lt (a b : Int) : primSem .lt [.int a, .int b] = some (mt (.bl (decide (a < b)))) := id rfl
@[simp] theorem ps_le (a b : Int) : primSem .le [.int a, .int b] = some (mt (.bl (decide (a ≤ b)))) := id rfl
@[simp] theorem ps_gt (a b : Int) : primSem .gt [.int a, .int b] = some (mt (.bl (decide (b < a)))) := id rfl
@[simp] theorem ps_ge (a b : Int) : primSem .ge [.int a, .int b] = some (mt (.bl (decide (b ≤ a)))) := id rfl
@[simp] theorem ps_eqi (a b : Int) : primSem .eq [.int a, .int b] = some (mt (.bl (a == b))) := id rfl
@[simp] theorem ps_eqs (a b : Str) : primSem .eq [.str a, .str b] = some (mt (.bl (a == b))) := id rfl
@[simp] theorem ps_eqb (a b : Bool) : primSem .eq [.bl a, .bl b] = some (mt (.bl (a == b))) := id rfl
@[simp] theorem ps_nei (a b : Int) : primSem .ne [.int a, .int b] = some (mt (.bl (!(a == b)))) := id rfl
@[simp] theorem ps_neb (a b : Bool) : primSem .ne [.bl a, .bl b] = some (mt (.bl (!(a == b)))) := id rfl
theorem ps_eq (a b : T) : primSem .eq [a, b] = (tEq a b).map fun c => mt (.bl c) := id rfl
theorem ps_ne (a b : T) : primSem .ne [a, b] = (tEq a b).map fun c => mt (.bl (!c)) := id rfl
@[simp] theorem ps_isN (a : T) : primSem .isN [a] = some (mt (.bl a.isN)) := id rfl
@[simp] theorem ps_notN (a : T) : primSem .notN [a] = some (mt (.bl (!a.isN))) := id rfl
@[simp] theorem ps_idxl (xs : List T) (i : Int) : primSem .idx [.lst xs, .int i] = (atI xs i).map mt := id rfl
@[simp] theorem ps_idxt (xs : List T) (i : Int) : primSem .idx [.tup xs, .int i] = (atI xs i).map mt := id rfl
@[simp] theorem ps_idxr (xs : List Int) (i : Int) : primSem .idx [.rd xs, .int i] = (atI xs i).map fun n => mt (.int n) := id rfl
@[simp] theorem ps_lenl (xs : List T) : primSem .len [.lst xs] = some (mt (.int xs.length)) := id rfl
@[simp] theorem ps_lent (xs : List T) : primSem .len [.tup xs] = some (mt (.int xs.length)) := id rfl
@[simp] theorem ps_lenr (xs : List Int) : primSem .len [.rd xs] = some (mt (.int xs.length)) := id rfl
@[simp] theorem ps_abs (a : Int) : primSem .abs [.int a] = some (mt (.int (if a < 0 then -a else a))) := id rfl
@[simp] theorem ps_int (a : Int) : primSem .int [.int a] = some (mt (.int a)) := id rfl
@[simp] theorem ps_intb (a : Bool) : primSem .int [.bl a] = some (mt (.int (if a then 1 else 0))) := id rfl
@[simp] theorem ps_max2 (a b : Int) : primSem .max2 [.int a, .int b] = some (mt (.int (if b > a then b else a))) := id rfl
@[simp] theorem ps_min2 (a b : Int) : primSem .min2 [.int a, .int b] = some (mt (.int (if b < a then b else a))) := id rfl
@[simp] theorem ps_list (xs : List T) : primSem .list [.lst xs] = some (.bx (.ls xs)) := id rfl
@[simp] theorem ps_listt (xs : List T) : primSem .list [.tup xs] = some (.bx (.ls xs)) := id rfl
@[simp] theorem ps_listr (xs : List Int) : primSem .list [.rd xs] = some (.bx (.ls (xs.map .int))) := id rfl
@[simp] theorem ps_tupl (xs : List T) : primSem .tuple [.lst xs] = some (mt (.tup xs)) := id rfl
@[simp] theorem ps_tupt (xs : List T) : primSem .tuple [.tup xs] = some (mt (.tup xs)) := id rfl
theorem ps_addl {a b : List T} (h : a.length + b.length ≤ sizeLine) : primSem .add [.lst a, .lst b] = some (.bx (.ls (a ++ b))) := if_pos h
theorem ps_addt {a b : List T} (h : a.length + b.length ≤ sizeLine) : primSem .add [.tup a, .tup b] = some (mt (.tup (a ++ b))) := if_pos h
@[simp] theorem isN_non : T.isN .non = true := id rfl
@[simp] theorem isN_int (i : Int) : T.isN (.int i) = false := id rfl
@[simp] theorem isN_tup (xs : List T) : T.isN (.tup xs) = false := id rfl
@[simp] theorem isN_lst (xs : List T) : T.isN (.lst xs) = false := id rfl
@[simp] theorem tru_bl (b : Bool) : tru (.bl b) = some b := id rfl
@[simp] theorem tru_int (i : Int) : tru (.int i) = some (i != 0) := id rfl
@[simp] theorem tru_non : tru .non = some false := id rfl
@[simp] theorem tru_lst (xs : List T) : tru (.lst xs) = some (!xs.isEmpty) := id rfl
@[simp] theorem tru_tup (xs : List T) : tru (.tup xs) = some (!xs.isEmpty) := id rfl
@[simp] theorem run_int_of (i : Int) : intOf (.int i) = some i := id rfl
@[simp] theorem run_map_some {α β : Type} (f : α → β) (a : α) : Option.map f (some a) = some (f a) := id rfl
theorem ixN_nat {n i : Nat} (h : i < n) : ixN n (i : Int) = some i := by
  unfold ixN
  rw [if_pos (Int.natCast_nonneg i), if_pos (by omega)]
  rfl
theorem atI_nat {α : Type} {xs : List α} {i : Nat} (h : i < xs.length) : atI xs (i : Int) = some xs[i] := by
  unfold atI
  rw [ixN_nat h]
  simp [h]
@[simp] theorem atI_0 {α : Type} (x : α) (xs : List α) : atI (x :: xs) 0 = some x := by
  have := atI_nat (xs := x :: xs) (i := 0) (by simp)
  simpa using this
@[simp] theorem atI_1 {α : Type} (x y : α) (xs : List α) : atI (x :: y :: xs) 1 = some y := by
  have := atI_nat (xs := x :: y :: xs) (i := 1) (by simp)
  simpa using this
@[simp] theorem atI_2 {α : Type} (x y z : α) (xs : List α) : atI (x :: y :: z :: xs) 2 = some z := by
  have := atI_nat (xs := x :: y :: z :: xs) (i := 2) (by simp)
  simpa using this
@[simp] theorem atI_3 {α : Type} (x y z w : α) (xs : List α) : atI (x :: y :: z :: w :: xs) 3 = some w := by
  have := atI_nat (xs := x :: y :: z :: w :: xs) (i := 3) (by simp)
  simpa using this
theorem atI_last {α : Type} {xs : List α} (h : xs ≠ []) : atI xs (-1) = some (xs.getLast h) := by
  have hl : 0 < xs.length := List.length_pos_iff.mpr h
  unfold atI ixN
  rw [if_neg (by omega), if_pos (by omega)]
  have e : (-1 + (xs.length : Int)).toNat = xs.length - 1 := by omega
  show (some (-1 + (xs.length : Int)).toNat).bind _ = _
  rw [e]
  simp [List.getLast_eq_getElem, show xs.length - 1 < xs.length by omega]
@[simp] theorem ixN_0 (n : Nat) : ixN (n + 1) 0 = some 0 := ixN_nat (i := 0) (by omega)
@[simp] theorem ixN_1 (n : Nat) : ixN (n + 1 + 1) 1 = some 1 := ixN_nat (i := 1) (by omega)
@[simp] theorem ixN_2 (n : Nat) : ixN (n + 1 + 1 + 1) 2 = some 2 := ixN_nat (i := 2) (by omega)
@[simp] theorem ls_at (ρ : Slots) (i : Nat) : lsOf ρ i = match ρ[i]? with
  | some (some (.bx (.ls xs))) => some xs
  | _ => none := id rfl
@[simp] theorem isls_at (ρ : Slots) (i : Nat) : isLs ρ i = (lsOf ρ i).isSome := id rfl
@[simp] theorem setM_at (pin : List Nat) (i : Nat) (m : M) (ρ : Slots) : setM pin i m ρ = if i < ρ.length ∧ i ∉ pin then some (ρ.set i (some m)) else none := id rfl
@[simp] theorem setMs_n (pin : List Nat) (ρ : Slots) : setMs pin [] [] ρ = some ρ := id rfl
@[simp] theorem setMs_c (pin : List Nat) (i : Nat) (is : List Nat) (m : M) (ms : List M) (ρ : Slots) : setMs pin (i :: is) (m :: ms) ρ = obd (setM pin i m ρ) fun ρ => setMs pin is ms ρ := id rfl
@[simp] theorem st_nm (pin : List Nat) (i : Nat) (t : T) (ρ : Slots) : (Tg.nm i).store pin t ρ = if i < ρ.length ∧ i ∉ pin then some (ρ.set i (some (mt t))) else none := id rfl
@[simp] theorem st_t2 (pin : List Nat) (a b : Tg) (x y : T) (ρ : Slots) : (Tg.t2 a b).store pin (.tup [x, y]) ρ = obd (a.store pin x ρ) fun ρ => b.store pin y ρ := id rfl
@[simp] theorem st_t2l (pin : List Nat) (a b : Tg) (x y : T) (ρ : Slots) : (Tg.t2 a b).store pin (.lst [x, y]) ρ = obd (a.store pin x ρ) fun ρ => b.store pin y ρ := id rfl
@[simp] theorem st_t3 (pin : List Nat) (a b c : Tg) (x y z : T) (ρ : Slots) : (Tg.t3 a b c).store pin (.tup [x, y, z]) ρ = obd (a.store pin x ρ) fun ρ => obd (b.store pin y ρ) fun ρ => c.store pin z ρ := id rfl
@[simp] theorem st_t4 (pin : List Nat) (a b c d : Tg) (x y z w : T) (ρ : Slots) : (Tg.t4 a b c d).store pin (.tup [x, y, z, w]) ρ = obd (a.store pin x ρ) fun ρ => obd (b.store pin y ρ) fun ρ => obd (c.store pin z ρ) fun ρ => d.store pin w ρ := id rfl
@[simp] theorem st_t3l (pin : List Nat) (a b c : Tg) (x y z : T) (ρ : Slots) : (Tg.t3 a b c).store pin (.lst [x, y, z]) ρ = obd (a.store pin x ρ) fun ρ => obd (b.store pin y ρ) fun ρ => c.store pin z ρ := id rfl
@[simp] theorem st_t4l (pin : List Nat) (a b c d : Tg) (x y z w : T) (ρ : Slots) : (Tg.t4 a b c d).store pin (.lst [x, y, z, w]) ρ = obd (a.store pin x ρ) fun ρ => obd (b.store pin y ρ) fun ρ => obd (c.store pin z ρ) fun ρ => d.store pin w ρ := id rfl
@[simp] theorem lent_n (ρ : Slots) : lentOk [] ρ = true := by unfold lentOk; rfl
@[simp] theorem lent_f (mu : List Bool) (m : Option M) (ρ : Slots) : lentOk (false :: mu) (m :: ρ) = lentOk mu ρ := id rfl
@[simp] theorem lent_t (mu : List Bool) (m : M) (ρ : Slots) : lentOk (true :: mu) (some m :: ρ) = lentOk mu ρ := id rfl
@[simp] theorem pins_n (i : Nat) : pinsOf i [] = [] := id rfl
@[simp] theorem pins_t (i : Nat) (mu : List Bool) : pinsOf i (true :: mu) = i :: pinsOf (i + 1) mu := id rfl
@[simp] theorem pins_f (i : Nat) (mu : List Bool) : pinsOf i (false :: mu) = pinsOf (i + 1) mu := id rfl
@[simp] theorem vs_var (i : Nat) : (E.var i).vs = true := id rfl
@[simp] theorem vs_k (t : T) : (E.k t).vs = true := id rfl
@[simp] theorem vs_g (j : Str) : (E.g j).vs = true := id rfl
@[simp] theorem vs_op (p : Prim) (es : Es) : (E.op p es).vs = es.vs := id rfl
@[simp] theorem vs_sl (x : E) (a b : Op) : (E.sl x a b).vs = (x.vs && a.vs && b.vs) := id rfl
@[simp] theorem vs_nil : Es.nil.vs = true := id rfl
@[simp] theorem vs_cons (e : E) (es : Es) : (Es.cons e es).vs = (e.vs && es.vs) := id rfl
@[simp] theorem vs_no : Op.no.vs = true := id rfl
@[simp] theorem vs_some (e : E) : (Op.some e).vs = e.vs := id rfl
section
variable {G : Gc} {ρ : Slots}
@[simp] theorem ev_k (t : T) : ev G (.k t) ρ = some (mt t, ρ) := id rfl
@[simp] theorem ev_g (j : Str) : ev G (.g j) ρ = obd (G.consts j) fun t => some (mt t, ρ) := id rfl
@[simp] theorem ev_var (i : Nat) : ev G (.var i) ρ = match ρ[i]? with
    | some (some (.bx (.fz t))) => some (mt t, ρ)
    | some (some (.bx x)) => some (mt x.frz, ρ.set i (some (mt x.frz)))
    | _ => none := id rfl
@[simp] theorem ev_op (p : Prim) (es : Es) : ev G (.op p es) ρ = bnd (evs G es ρ) fun ts ρ => obd (primSem p ts) fun m => some (m, ρ) := id rfl
@[simp] theorem ev_sl (x : E) (lo hi : Op) : ev G (.sl x lo hi) ρ = if (lo.vs && hi.vs || !ownedAt x.slot? ρ) = true then bnd (v1 x.slot? (ev G x) ρ) fun t ρ => bnd (evO G lo ρ) fun lo ρ => bnd (evO G hi ρ) fun hi ρ => obd (pSlice t lo hi) fun m => some (m, ρ) else none := id rfl
theorem ev_tup (es : Es) : ev G (.tup es) ρ = bnd (evf G es ρ) fun ts ρ => if ts.length ≤ sizeLine then some (mt (.tup ts), ρ) else none := id rfl
theorem ev_lst (es : Es) : ev G (.lst es) ρ = bnd (evf G es ρ) fun ts ρ => if ts.length ≤ sizeLine then some (.bx (.ls ts), ρ) else none := id rfl
@[simp] theorem ev_ite (c : C) (a b : E) : ev G (.ite c a b) ρ = bnd (evC G c ρ) fun k ρ => if k = true then ev G a ρ else ev G b ρ := id rfl
@[simp] theorem ev_and (a b : E) : ev G (.and a b) ρ = bnd (ev G a ρ) fun m ρ => obd m.frz fun t => obd (tru t) fun k => if k = true then ev G b ρ else some (m, ρ) := id rfl
@[simp] theorem ev_or (a b : E) : ev G (.or a b) ρ = bnd (ev G a ρ) fun m ρ => obd m.frz fun t => obd (tru t) fun k => if k = true then some (m, ρ) else ev G b ρ := id rfl
@[simp] theorem ev_not (a : E) : ev G (.not a) ρ = bnd (v1 a.slot? (ev G a) ρ) fun t ρ => obd (tru t) fun k => some (mt (.bl (!k)), ρ) := id rfl
@[simp] theorem ev_chain (p q : Prim) (a b c : E) : ev G (.chain p q a b c) ρ = bnd (f1 (ev G a ρ)) fun x ρ => bnd (f1 (ev G b ρ)) fun y ρ => obd (primSem p [x, y]) fun r => match r with
    | .bx (.fz (.bl true)) => bnd (f1 (ev G c ρ)) fun z ρ => obd (primSem q [y, z]) fun r => some (r, ρ)
    | .bx (.fz (.bl false)) => some (mt (.bl false), ρ)
    | _ => none := id rfl
@[simp] theorem ev_isi (a : E) (cs : List Ty) (b : Bool) : ev G (.isi a cs b) ρ = bnd (v1 a.slot? (ev G a) ρ) fun t ρ => obd (pIsi t cs) fun m => some (m, ρ) := id rfl
@[simp] theorem ev_call (j : Str) (es : Es) : ev G (.call j es) ρ = obd (G.fns j) fun F => bnd (evm G F.mu es ρ) fun ms ρ => bnd (F.sem ms) fun m ρ' => some (m, backM es F.mu ρ' ρ) := id rfl
@[simp] theorem ev_callk (j : Str) (es : Es) (perm : List Nat) : ev G (.callk j es perm) ρ = bnd (evf G es ρ) fun ts ρ => obd (valOf G.fns j (perm.map fun i => (ts[i]?).getD .non)) fun m => some (m, ρ) := id rfl
@[simp] theorem ev_callp (j : Str) (es : Es) : ev G (.callp j es) ρ = bnd (evf G es ρ) fun ts ρ => obd (valOf G.fns j ts) fun m => some (m, ρ) := id rfl
theorem ev_comp (own : List Nat) (tg : Tg) (it : I) (cs : Cs) (elt : E) : ev G (.comp own tg it cs elt) ρ = bnd (evI G it ρ) fun xs ρ0 => bnd (compL own (fun x ρ => obd (tg.store G.pin x ρ) fun ρ => bnd (evCs G cs ρ) fun k ρ =>
      if k = true then bnd (f1 (ev G elt ρ)) fun t ρ => some (some t, ρ) else some (none, ρ)) xs ρ0) fun ys ρ1 => some (.bx (.ls ys), backS own ρ0 ρ1) := id rfl
theorem ev_comp2 (own own2 : List Nat) (tg : Tg) (it : I) (cs : Cs) (tg2 : Tg) (it2 : I) (cs2 : Cs) (elt : E) : ev G (.comp2 own own2 tg it cs tg2 it2 cs2 elt) ρ = bnd (evI G it ρ) fun xs ρ0 => bnd (compLL own (fun x ρ => obd (tg.store G.pin x ρ) fun ρ => bnd (evCs G cs ρ) fun k ρ =>
      if k = true then bnd (evI G it2 ρ) fun zs ρ => compL own2 (fun z ρ => obd (tg2.store G.pin z ρ) fun ρ => bnd (evCs G cs2 ρ) fun k ρ =>
        if k = true then bnd (f1 (ev G elt ρ)) fun t ρ => some (some t, ρ) else some (none, ρ)) zs ρ else some ([], ρ)) xs ρ0) fun ys ρ1 => if ys.length ≤ sizeLine then some (.bx (.ls ys), backS own ρ0 ρ1) else none := id rfl
theorem ev_rgl (tup : Bool) (a : E) : ev G (.rgl tup a) ρ = bnd (f1 (ev G a ρ)) fun t ρ => obd (intOf t) fun n => obd (rangeT 0 n) fun xs => some (sqM tup xs, ρ) := id rfl
theorem ev_rgl2 (tup : Bool) (a b : E) : ev G (.rgl2 tup a b) ρ = bnd (f1 (ev G a ρ)) fun s ρ => bnd (f1 (ev G b ρ)) fun t ρ => obd (intOf s) fun m => obd (intOf t) fun n => obd (rangeT m n) fun xs => some (sqM tup xs, ρ) := id rfl
@[simp] theorem owned_n (ρ : Slots) : ownedAt none ρ = false := id rfl
@[simp] theorem owned_s (i : Nat) (ρ : Slots) : ownedAt (some i) ρ = match ρ[i]? with
    | some (some (.bx (.fz _))) => false
    | _ => true := id rfl
@[simp] theorem sqM_t (xs : List T) : sqM true xs = mt (.tup xs) := id rfl
@[simp] theorem sqM_f (xs : List T) : sqM false xs = .bx (.ls xs) := id rfl
theorem ev_pop0 (i : Nat) : ev G (.pop0 i) ρ = obd (lsOf ρ i) fun xs => obd (xs[xs.length - 1]?) fun y => some (mt y, ρ.set i (some (.bx (.ls xs.dropLast)))) := id rfl
theorem ev_pop (i : Nat) (a : E) : ev G (.pop i a) ρ = if isLs ρ i = true then bnd (f1 (ev G a ρ)) fun k ρ => obd (lsOf ρ i) fun xs => obd (intOf k) fun k =>
      if -(2 ^ 63) ≤ k ∧ k < 2 ^ 63 then obd (seqIndex? k xs.length) fun j => obd (xs[j]?) fun y => some (mt y, ρ.set i (some (.bx (.ls (xs.eraseIdx j))))) else none else none := id rfl
theorem ev_pop_ok {i : Nat} {a : E} {ρ' : Slots} {ys xs : List T} {k : Int} {j : Nat} {y : T} (h0 : lsOf ρ i = some ys) (he : f1 (ev G a ρ) = some (.int k, ρ')) (hx : lsOf ρ' i = some xs) (hk : -(2 ^ 63) ≤ k ∧ k < 2 ^ 63) (hj : seqIndex? k xs.length = some j) (hy : xs[j]? = some y) :
    ev G (.pop i a) ρ = some (mt y, ρ'.set i (some (.bx (.ls (xs.eraseIdx j))))) := by
  rw [ev_pop, if_pos (by unfold isLs; rw [h0]; rfl), he, bnd_ok, hx, obd_ok, intOf, obd_ok, if_pos hk, hj, obd_ok, hy, obd_ok]
@[simp] theorem evs_n : evs G .nil ρ = some ([], ρ) := id rfl
@[simp] theorem evs_c (e : E) (es : Es) : evs G (.cons e es) ρ = match e.slot? with
    | some i => match ρ[i]? with
      | some (some (.bx (.fz t))) => bnd (evs G es ρ) fun ts ρ => some (t :: ts, ρ)
      | some (some (.bx x)) => if es.vs = true then bnd (evs G es ρ) fun ts ρ => some (x.frz :: ts, ρ) else none
      | _ => none
    | none => bnd (ev G e ρ) fun m ρ => obd m.frz fun t => bnd (evs G es ρ) fun ts ρ => some (t :: ts, ρ) := id rfl
@[simp] theorem evf_n : evf G .nil ρ = some ([], ρ) := id rfl
@[simp] theorem evf_c (e : E) (es : Es) : evf G (.cons e es) ρ = bnd (ev G e ρ) fun m ρ => obd m.frz fun t => bnd (evf G es ρ) fun ts ρ => some (t :: ts, ρ) := id rfl
@[simp] theorem evm_n : evm G [] .nil ρ = some ([], ρ) := id rfl
@[simp] theorem evm_f (cs : List Bool) (e : E) (es : Es) : evm G (false :: cs) (.cons e es) ρ = bnd (ev G e ρ) fun m ρ => obd m.frz fun t => bnd (evm G cs es ρ) fun ms ρ => some (mt t :: ms, ρ) := id rfl
@[simp] theorem evm_t (cs : List Bool) (e : E) (es : Es) : evm G (true :: cs) (.cons e es) ρ = match e.slot? with
      | some i => match ρ[i]? with
        | some (some _) => bnd (evm G cs es ρ) fun ms ρ => (match ρ[i]? with
          | some (some m) => some (m :: ms, ρ.set i none)
          | _ => none)
        | _ => none
      | none => bnd (ev G e ρ) fun m ρ => bnd (evm G cs es ρ) fun ms ρ => some (m :: ms, ρ) := id rfl
@[simp] theorem evO_n : evO G .no ρ = some (none, ρ) := id rfl
@[simp] theorem evO_s (e : E) : evO G (.some e) ρ = bnd (v1 e.slot? (ev G e) ρ) fun t ρ => obd (intOf t) fun i => some (some i, ρ) := id rfl
@[simp] theorem evC_val (e : E) : evC G (.val e) ρ = bnd (v1 e.slot? (ev G e) ρ) fun t ρ => obd (tru t) fun k => some (k, ρ) := id rfl
@[simp] theorem evC_not (c : C) : evC G (.not c) ρ = bnd (evC G c ρ) fun k ρ => some (!k, ρ) := id rfl
@[simp] theorem evC_and (a b : C) : evC G (.and a b) ρ = bnd (evC G a ρ) fun k ρ => if k = true then evC G b ρ else some (false, ρ) := id rfl
@[simp] theorem evC_or (a b : C) : evC G (.or a b) ρ = bnd (evC G a ρ) fun k ρ => if k = true then some (true, ρ) else evC G b ρ := id rfl
@[simp] theorem evCs_n : evCs G .nil ρ = some (true, ρ) := id rfl
@[simp] theorem evCs_c (c : C) (cs : Cs) : evCs G (.cons c cs) ρ = bnd (evC G c ρ) fun k ρ => if k = true then evCs G cs ρ else some (false, ρ) := id rfl
@[simp] theorem evI_seq (e : E) : evI G (.seq e) ρ = bnd (f1 (ev G e ρ)) fun t ρ => obd (seqOf t) fun xs => some (xs, ρ) := id rfl
theorem evI_r1 (a : E) : evI G (.range1 a) ρ = bnd (f1 (ev G a ρ)) fun t ρ => obd (intOf t) fun n => obd (rangeT 0 n) fun xs => some (xs, ρ) := id rfl
theorem evI_r2 (a b : E) : evI G (.range2 a b) ρ = bnd (f1 (ev G a ρ)) fun s ρ => bnd (f1 (ev G b ρ)) fun t ρ => obd (intOf s) fun m => obd (intOf t) fun n => obd (rangeT m n) fun xs => some (xs, ρ) := id rfl
@[simp] theorem evI_en (e : E) : evI G (.enum e) ρ = bnd (f1 (ev G e ρ)) fun t ρ => obd (enumOf t) fun xs => some (xs, ρ) := id rfl
@[simp] theorem evI_zp (a b : E) : evI G (.zip a b) ρ = bnd (f1 (ev G a ρ)) fun s ρ => bnd (f1 (ev G b ρ)) fun t ρ => obd (zipOf s t) fun xs => some (xs, ρ) := id rfl
theorem evI_r3 (a b c : E) : evI G (.range3 a b c) ρ = bnd (f1 (ev G a ρ)) fun s ρ => bnd (f1 (ev G b ρ)) fun t ρ => bnd (f1 (ev G c ρ)) fun u ρ => obd (intOf s) fun m => obd (intOf t) fun n => obd (intOf u) fun k => obd (rangeD m n k) fun xs => some (xs, ρ) := id rfl
@[simp] theorem evI_zp3 (a b c : E) : evI G (.zip3 a b c) ρ = bnd (f1 (ev G a ρ)) fun s ρ => bnd (f1 (ev G b ρ)) fun t ρ => bnd (f1 (ev G c ρ)) fun u ρ => obd (zipOf3 s t u) fun xs => some (xs, ρ) := id rfl
@[simp] theorem ev_sd (e : E) : ev G (.sd e) ρ = bnd (ev G e ρ) fun m ρ => obd (sdM m) fun m => some (m, ρ) := id rfl
@[simp] theorem slot_sd (e : E) : (E.sd e).slot? = none := id rfl
theorem ex_dec (i : Nat) (e : E) : ex G (.dec i e) ρ = obd (intAt ρ i) fun a => bnd (f1 (ev G e ρ)) fun t ρ => obd (intOf t) fun b => obd (setM G.pin i (mt (.int (a - b))) ρ) fun ρ => some (.next, ρ) := id rfl
@[simp] theorem ps_max3 (a b c : Int) : primSem .max3 [.int a, .int b, .int c] = some (mt (.int (if c > (if b > a then b else a) then c else (if b > a then b else a)))) := id rfl
@[simp] theorem ex_skip : ex G .skip ρ = some (.next, ρ) := id rfl
@[simp] theorem ex_expr (e : E) : ex G (.expr e) ρ = bnd (ev G e ρ) fun _ ρ => some (.next, ρ) := id rfl
@[simp] theorem ex_asg (i : Nat) (e : E) : ex G (.asg (.nm i) e) ρ = bnd (ev G e ρ) fun m ρ => obd (setM G.pin i m ρ) fun ρ => some (.next, ρ) := id rfl
@[simp] theorem ex_asg2 (a b : Tg) (e : E) : ex G (.asg (.t2 a b) e) ρ = bnd (f1 (ev G e ρ)) fun t ρ => obd ((Tg.t2 a b).store G.pin t ρ) fun ρ => some (.next, ρ) := id rfl
@[simp] theorem ex_asg3 (a b c : Tg) (e : E) : ex G (.asg (.t3 a b c) e) ρ = bnd (f1 (ev G e ρ)) fun t ρ => obd ((Tg.t3 a b c).store G.pin t ρ) fun ρ => some (.next, ρ) := id rfl
@[simp] theorem ex_asg4 (a b c d : Tg) (e : E) : ex G (.asg (.t4 a b c d) e) ρ = bnd (f1 (ev G e ρ)) fun t ρ => obd ((Tg.t4 a b c d).store G.pin t ρ) fun ρ => some (.next, ρ) := id rfl
@[simp] theorem ex_par (is : List Nat) (es : Es) : ex G (.par is es) ρ = bnd (evp G es ρ) fun ms ρ => obd (setMs G.pin is ms ρ) fun ρ => some (.next, ρ) := id rfl
@[simp] theorem ex_put (i : Nat) (k e : E) : ex G (.put i k e) ρ = bnd (f1 (ev G e ρ)) fun t ρ => if isLs ρ i = true then bnd (f1 (ev G k ρ)) fun k ρ => obd (lsOf ρ i) fun xs => obd (intOf k) fun k =>
      obd (ixN xs.length k) fun j => some (.next, ρ.set i (some (.bx (.ls (xs.set j t))))) else none := id rfl
theorem ex_app (i : Nat) (e : E) : ex G (.app i e) ρ = if isLs ρ i = true then bnd (f1 (ev G e ρ)) fun t ρ => obd (lsOf ρ i) fun xs => if xs.length < sizeLine then some (.next, ρ.set i (some (.bx (.ls (xs ++ [t]))))) else none else none := id rfl
theorem ex_app_ok {i : Nat} {e : E} {ρ' : Slots} {ys xs : List T} {t : T} (h0 : lsOf ρ i = some ys) (he : f1 (ev G e ρ) = some (t, ρ')) (hx : lsOf ρ' i = some xs) (hl : xs.length < sizeLine) : ex G (.app i e) ρ = some (.next, ρ'.set i (some (.bx (.ls (xs ++ [t]))))) := by
  rw [ex_app, if_pos (by unfold isLs; rw [h0]; rfl), he, bnd_ok, hx, obd_ok, if_pos hl]
@[simp] theorem ex_ret (e : E) : ex G (.ret e) ρ = match e.slot? with
    | some i => if i ∈ G.pin then bnd (ev G e ρ) fun m ρ => some (.ret m, ρ) else match ρ[i]? with
      | some (some m) => some (.ret m, ρ.set i none)
      | _ => none
    | none => bnd (ev G e ρ) fun m ρ => some (.ret m, ρ) := id rfl
@[simp] theorem ex_retN : ex G .retN ρ = some (.ret (mt .non), ρ) := id rfl
@[simp] theorem ex_brk : ex G .brk ρ = some (.brk, ρ) := id rfl
@[simp] theorem ex_cont : ex G .cont ρ = some (.cont, ρ) := id rfl
@[simp] theorem ex_ifs (c : C) (a b : S) : ex G (.ifs c a b) ρ = bnd (evC G c ρ) fun k ρ => if k = true then ex G a ρ else ex G b ρ := id rfl
theorem ex_for (tg : Tg) (it : I) (body : S) : ex G (.for_ tg it body) ρ = bnd (evI G it ρ) fun xs ρ => forL (fun x ρ => obd (tg.store G.pin x ρ) fun ρ => ex G body ρ) xs ρ := id rfl
theorem ex_while (n : Nat) (c : C) (body : S) : ex G (.while_ n c body) ρ = whileL (evC G c) (ex G body) n ρ := id rfl
@[simp] theorem ex_seq (a b : S) : ex G (.seq a b) ρ = bnd (ex G a ρ) fun o ρ => match o with
    | .next => ex G b ρ
    | o => some (o, ρ) := id rfl
@[simp] theorem ex_fg (is : List Nat) (b : S) : ex G (.fg is b) ρ = ex G b (wipeS is ρ) := id rfl
@[simp] theorem ex_fz (is : List Nat) (b : S) : ex G (.fz is b) ρ = ex G b (frzS is ρ) := id rfl
@[simp] theorem frzS_n (ρ : Slots) : frzS [] ρ = ρ := id rfl
@[simp] theorem frzS_c (i : Nat) (is : List Nat) (ρ : Slots) : frzS (i :: is) ρ = frzS is (match ρ[i]? with
    | some (some (.bx x)) => ρ.set i (some (mt x.frz))
    | some (some (.ob c fs)) => (match frzFs fs with
      | some ts => ρ.set i (some (mt (.ob c ts)))
      | none => ρ)
    | _ => ρ) := id rfl
@[simp] theorem frzFs_n : frzFs [] = some [] := id rfl
@[simp] theorem frzFs_c (x : B) (r : List (Option B)) : frzFs (some x :: r) = (frzFs r).map (x.frz :: ·) := id rfl
@[simp] theorem frz_ob (c : ClsI) (fs : List (Option B)) : (M.ob c fs).frz = (frzFs fs).map (.ob c ·) := id rfl
@[simp] theorem bxOf_bx (x : B) : bxOf (.bx x) = some x := id rfl
theorem ex_fput_t (i : Nat) (cn : Str) (f : Nat) (e : E) : ex G (.fput true i cn f e) ρ = obd (clsC G cn) fun ci => bnd (ev G e ρ) fun m ρ => obd (bxOf m) fun x => obd (obOf ρ i ci) fun fs => if f < fs.length then some (.next, ρ.set i (some (.ob ci (fs.set f (some x))))) else none := id rfl
theorem ex_fput_f (i : Nat) (cn : Str) (f : Nat) (e : E) : ex G (.fput false i cn f e) ρ = obd (clsC G cn) fun ci => bnd (f1 (ev G e ρ)) fun t ρ => obd (obOf ρ i ci) fun fs => if f < fs.length then some (.next, ρ.set i (some (.ob ci (fs.set f (some (.fz t)))))) else none := id rfl
theorem ex_fapp (i : Nat) (cn : Str) (f : Nat) (e : E) : ex G (.fapp i cn f e) ρ = if e.vs = true then obd (clsC G cn) fun ci => if (lsF ρ i ci f).isSome = true then bnd (f1 (ev G e ρ)) fun t ρ => obd (obOf ρ i ci) fun fs => obd (lsB (fldAt fs f)) fun xs => if xs.length < sizeLine then some (.next, ρ.set i (some (.ob ci (fs.set f (some (.ls (xs ++ [t]))))))) else none else none else none := id rfl
@[simp] theorem ex_pass : ex G .pass ρ = some (.next, ρ) := id rfl
theorem ev_fld (i : Nat) (cn : Str) (f : Nat) : ev G (.fld i cn f) ρ = obd (clsC G cn) fun ci => obd (fldK ρ i ci f) fun t => some (mt t, ρ) := id rfl
theorem ev_fidx (i : Nat) (cn : Str) (f : Nat) (e : E) : ev G (.fidx i cn f e) ρ = if e.vs = true then obd (clsC G cn) fun ci => obd (fldV ρ i ci f) fun t => bnd (v1 e.slot? (ev G e) ρ) fun k ρ => obd (pIdx t k) fun m => some (m, ρ) else none := id rfl
theorem ev_flen (i : Nat) (cn : Str) (f : Nat) : ev G (.flen i cn f) ρ = obd (clsC G cn) fun ci => obd (fldV ρ i ci f) fun t => obd (pLen t) fun m => some (m, ρ) := id rfl
theorem ev_new (j cn : Str) (n : Nat) (es : Es) : ev G (.new j cn n es) ρ = bnd (evf G es ρ) fun ts ρ => obd (clsC G cn) fun ci => obd (G.fns j) fun F => if F.mu = true :: List.replicate ts.length false then bnd (F.sem (.ob ci (List.replicate n none) :: ts.map mt)) fun m ρ' => obd (madeOf m ρ') fun m => some (m, ρ) else none := id rfl
theorem ev_meth (j cn : Str) (es : Es) : ev G (.meth j cn es) ρ = obd (clsC G cn) fun ci => if preOb ci es.hslot ρ = true then obd (G.fns j) fun F => bnd (evm G F.mu es ρ) fun ms ρ => if headOb ci ms = true then bnd (F.sem ms) fun m ρ' => some (m, backM es F.mu ρ' ρ) else none else none := id rfl
theorem ev_methp (j cn : Str) (es : Es) : ev G (.methp j cn es) ρ = obd (clsC G cn) fun ci => bnd (evf G es ρ) fun ts ρ => if headOb ci (ts.map mt) = true then obd (valOf G.fns j ts) fun m => some (m, ρ) else none := id rfl
theorem clsC_of {cn : Str} {ci : ClsI} (h : G.consts cn = some (.cl ci)) : clsC G cn = some ci := by unfold clsC; rw [h]
theorem fldK_t {i f : Nat} {ci : ClsI} {ts : List T} (h : ρ[i]? = some (some (mt (.ob ci ts)))) : fldK ρ i ci f = ts[f]? := by unfold fldK; rw [h]; simp
theorem fldV_t {i f : Nat} {ci : ClsI} {ts : List T} (h : ρ[i]? = some (some (mt (.ob ci ts)))) : fldV ρ i ci f = ts[f]? := by unfold fldV; rw [h]; simp
theorem fldV_o {i f : Nat} {ci : ClsI} {fs : List (Option B)} {x : B} (h : ρ[i]? = some (some (.ob ci fs))) (hx : fs[f]? = some (some x)) : fldV ρ i ci f = some x.frz := by unfold fldV; rw [h]; simp [fldAt, hx]
theorem fldK_o {i f : Nat} {ci : ClsI} {fs : List (Option B)} {t : T} (h : ρ[i]? = some (some (.ob ci fs))) (hx : fs[f]? = some (some (.fz t))) : fldK ρ i ci f = some t := by unfold fldK; rw [h]; simp [fldAt, hx]
theorem obOf_o {i : Nat} {ci : ClsI} {fs : List (Option B)} (h : ρ[i]? = some (some (.ob ci fs))) : obOf ρ i ci = some fs := by unfold obOf; rw [h]; simp
@[simp] theorem headOb_t (ci : ClsI) (ts : List T) (ms : List M) : headOb ci (mt (.ob ci ts) :: ms) = true := by simp [headOb, isObM]
@[simp] theorem headOb_o (ci : ClsI) (fs : List (Option B)) (ms : List M) : headOb ci (.ob ci fs :: ms) = true := by simp [headOb, isObM]
@[simp] theorem slot_fld (i : Nat) (cn : Str) (f : Nat) : (E.fld i cn f).slot? = none := id rfl
@[simp] theorem slot_fidx (i : Nat) (cn : Str) (f : Nat) (e : E) : (E.fidx i cn f e).slot? = none := id rfl
@[simp] theorem slot_flen (i : Nat) (cn : Str) (f : Nat) : (E.flen i cn f).slot? = none := id rfl
@[simp] theorem slot_new (j cn : Str) (n : Nat) (es : Es) : (E.new j cn n es).slot? = none := id rfl
@[simp] theorem slot_meth (j cn : Str) (es : Es) : (E.meth j cn es).slot? = none := id rfl
@[simp] theorem slot_bor (e : E) : (E.bor e).slot? = none := id rfl
@[simp] theorem slot_call0 (j : Str) : (E.call0 j).slot? = none := id rfl
@[simp] theorem ev_call0 (j : Str) : ev G (.call0 j) ρ = obd (valOf G.fns j []) fun m => some (m, ρ) := id rfl
theorem ev_bor (e : E) : ev G (.bor e) ρ = bnd (ev G e (frzA ρ)) fun m _ => if m.flat = true then some (m, ρ) else none := id rfl
@[simp] theorem frzA_n : frzA [] = [] := id rfl
@[simp] theorem frzA_c (o : Option M) (ρ : Slots) : frzA (o :: ρ) = frzO o :: frzA ρ := id rfl
@[simp] theorem frzO_n : frzO none = none := id rfl
@[simp] theorem frzO_b (x : B) : frzO (some (.bx x)) = some (mt x.frz) := id rfl
@[simp] theorem frzO_o (c : ClsI) (fs : List (Option B)) : frzO (some (.ob c fs)) = ((frzFs fs).map (.ob c ·)).map mt := id rfl
@[simp] theorem flat_bl (b : Bool) : (mt (.bl b)).flat = true := id rfl
@[simp] theorem flat_int (b : Int) : (mt (.int b)).flat = true := id rfl
@[simp] theorem flat_non : (mt .non).flat = true := id rfl
@[simp] theorem slot_methp (j cn : Str) (es : Es) : (E.methp j cn es).slot? = none := id rfl
@[simp] theorem evp_n : evp G .nil ρ = some ([], ρ) := id rfl
@[simp] theorem evp_c (e : E) (es : Es) : evp G (.cons e es) ρ = bnd (ev G e ρ) fun m ρ => bnd (evp G es ρ) fun ms ρ => some (m :: ms, ρ) := id rfl
@[simp] theorem slot_var (i : Nat) : (E.var i).slot? = some i := id rfl
@[simp] theorem slot_k (t : T) : (E.k t).slot? = none := id rfl
@[simp] theorem slot_g (j : Str) : (E.g j).slot? = none := id rfl
@[simp] theorem slot_op (p : Prim) (es : Es) : (E.op p es).slot? = none := id rfl
@[simp] theorem slot_sl (x : E) (a b : Op) : (E.sl x a b).slot? = none := id rfl
@[simp] theorem slot_tup (es : Es) : (E.tup es).slot? = none := id rfl
@[simp] theorem slot_lst (es : Es) : (E.lst es).slot? = none := id rfl
@[simp] theorem slot_ite (c : C) (a b : E) : (E.ite c a b).slot? = none := id rfl
@[simp] theorem slot_and (a b : E) : (E.and a b).slot? = none := id rfl
@[simp] theorem slot_or (a b : E) : (E.or a b).slot? = none := id rfl
@[simp] theorem slot_not (a : E) : (E.not a).slot? = none := id rfl
@[simp] theorem slot_chain (p q : Prim) (a b c : E) : (E.chain p q a b c).slot? = none := id rfl
@[simp] theorem slot_isi (a : E) (cs : List Ty) (b : Bool) : (E.isi a cs b).slot? = none := id rfl
@[simp] theorem slot_call (j : Str) (es : Es) : (E.call j es).slot? = none := id rfl
@[simp] theorem slot_callp (j : Str) (es : Es) : (E.callp j es).slot? = none := id rfl
@[simp] theorem slot_callk (j : Str) (es : Es) (p : List Nat) : (E.callk j es p).slot? = none := id rfl
@[simp] theorem slot_comp (own : List Nat) (tg : Tg) (it : I) (cs : Cs) (elt : E) : (E.comp own tg it cs elt).slot? = none := id rfl
@[simp] theorem slot_comp2 (own own2 : List Nat) (tg : Tg) (it : I) (cs : Cs) (tg2 : Tg) (it2 : I) (cs2 : Cs) (elt : E) : (E.comp2 own own2 tg it cs tg2 it2 cs2 elt).slot? = none := id rfl
@[simp] theorem slot_pop0 (i : Nat) : (E.pop0 i).slot? = none := id rfl
@[simp] theorem slot_pop (i : Nat) (a : E) : (E.pop i a).slot? = none := id rfl
@[simp] theorem slot_rgl (t : Bool) (a : E) : (E.rgl t a).slot? = none := id rfl
@[simp] theorem slot_rgl2 (t : Bool) (a b : E) : (E.rgl2 t a b).slot? = none := id rfl
@[simp] theorem backM_n (es : Es) (ms ρ : Slots) : backM es [] ms ρ = ρ := by unfold backM; rfl
@[simp] theorem backM_c (e : E) (es : Es) (c : Bool) (cs : List Bool) (m : Option M) (ms ρ : Slots) : backM (.cons e es) (c :: cs) (m :: ms) ρ = backM es cs ms (match c, e.slot? with | true, some i => ρ.set i m | _, _ => ρ) := id rfl
@[simp] theorem f1_ok (m : M) (ρ : Slots) : f1 (some (m, ρ)) = obd m.frz fun t => some (t, ρ) := id rfl
@[simp] theorem frz_bx (x : B) : (M.bx x).frz = some x.frz := id rfl
@[simp] theorem frz_fz (t : T) : (B.fz t).frz = t := id rfl
@[simp] theorem frz_ls (ts : List T) : (B.ls ts).frz = .lst ts := id rfl
@[simp] theorem v1_var (i : Nat) (r : Slots → Option (M × Slots)) : v1 (some i) r ρ = match ρ[i]? with
    | some (some (.bx x)) => some (x.frz, ρ)
    | _ => none := id rfl
@[simp] theorem v1_e (r : Slots → Option (M × Slots)) : v1 none r ρ = bnd (r ρ) fun m ρ => obd m.frz fun t => some (t, ρ) := id rfl
end
end Mk
set_option maxHeartbeats 4000000
/-! Mk: loops and comprehensions, run. -/
namespace Mk
open PySem L2
section
variable {G : Gc} {own : List Nat} {ρ ρ0 : Slots}
@[simp] theorem wipeS_n (ρ : Slots) : wipeS [] ρ = ρ := id rfl
@[simp] theorem wipeS_c (i : Nat) (own : List Nat) (ρ : Slots) : wipeS (i :: own) ρ = wipeS own (ρ.set i none) := id rfl
@[simp] theorem backS_n (ρ ρ' : Slots) : backS [] ρ ρ' = ρ' := id rfl
@[simp] theorem backS_c (i : Nat) (own : List Nat) (ρ ρ' : Slots) : backS (i :: own) ρ ρ' = backS own ρ (ρ'.set i ((ρ[i]?).getD none)) := id rfl
theorem back_same {ρ' : Slots} (h : wipeS own ρ' = wipeS own ρ0) : backS own ρ0 ρ' = ρ0 := by
  have hl : ρ'.length = ρ0.length := by
    have := congrArg List.length h
    rw [wipeS_len, wipeS_len] at this
    exact this
  apply List.ext_getElem?
  intro i
  rw [backS_get]
  by_cases hi : i ∈ own ∧ i < ρ'.length
  · rw [if_pos hi]
    have h2 : i < ρ0.length := by rw [← hl]; exact hi.2
    rw [List.getElem?_eq_getElem h2]
    rfl
  · rw [if_neg hi]
    have e := congrArg (fun z => z[i]?) h
    simp only [wipeS_get] at e
    rw [if_neg hi, if_neg (by rw [← hl]; exact hi)] at e
    exact e
/-- a comprehension whose turns change nothing but its own names -/
theorem compL_pure {f : T → Slots → Option (Option T × Slots)} {g : T → Option T} : ∀ {xs : List T} {ρ : Slots}, (∀ x ∈ xs, ∃ ρ', f x (wipeS own ρ0) = some (g x, ρ') ∧ wipeS own ρ' = wipeS own ρ0) → wipeS own ρ = wipeS own ρ0 →
    ∃ ρ', compL own f xs ρ = some (xs.filterMap g, ρ') ∧ wipeS own ρ' = wipeS own ρ0
  | [], ρ, _, e => ⟨ρ, rfl, e⟩
  | x :: xs, ρ, h, e => by
    obtain ⟨ρ1, h1, e1⟩ := h x List.mem_cons_self
    obtain ⟨ρ2, h2, e2⟩ := compL_pure (fun y hy => h y (List.mem_cons_of_mem _ hy)) e1
    refine ⟨ρ2, ?_, e2⟩
    unfold compL
    rw [e, h1, bnd_ok, h2, bnd_ok]
    cases q : g x with
    | none => rw [List.filterMap_cons_none q]
    | some y => rw [List.filterMap_cons_some q]
theorem filterMap_all {g : T → Option T} {h : T → T} : ∀ {xs : List T}, (∀ x ∈ xs, g x = some (h x)) → xs.filterMap g = xs.map h
  | [], _ => rfl
  | x :: xs, q => by
    rw [List.filterMap_cons_some (q x List.mem_cons_self), filterMap_all fun y hy => q y (List.mem_cons_of_mem _ hy)]
    rfl
abbrev turnF (G : Gc) (tg : Tg) (cs : Cs) (elt : E) : T → Slots → Option (Option T × Slots) := fun x ρ => obd (tg.store G.pin x ρ) fun ρ => bnd (evCs G cs ρ) fun k ρ =>
      if k = true then bnd (f1 (ev G elt ρ)) fun t ρ => some (some t, ρ) else some (none, ρ)
theorem ev_comp_if {tg : Tg} {it : I} {cs : Cs} {elt : E} {xs : List T} (g : T → Option T) (hi : evI G it ρ = some (xs, ρ0))
    (h : ∀ x ∈ xs, ∃ ρ', turnF G tg cs elt x (wipeS own ρ0) = some (g x, ρ') ∧ wipeS own ρ' = wipeS own ρ0) : ev G (.comp own tg it cs elt) ρ = some (.bx (.ls (xs.filterMap g)), ρ0) := by
  rw [ev_comp, hi, bnd_ok]
  obtain ⟨ρ', h1, h2⟩ := compL_pure h rfl
  show bnd (compL own (turnF G tg cs elt) xs ρ0) _ = _
  rw [h1, bnd_ok, back_same h2]
theorem ev_comp_map {tg : Tg} {it : I} {elt : E} {xs : List T} (g : T → T) (hi : evI G it ρ = some (xs, ρ0))
    (h : ∀ x ∈ xs, ∃ ρ', turnF G tg .nil elt x (wipeS own ρ0) = some (some (g x), ρ') ∧ wipeS own ρ' = wipeS own ρ0) : ev G (.comp own tg it .nil elt) ρ = some (.bx (.ls (xs.map g)), ρ0) := by
  rw [ev_comp_if (fun x => some (g x)) hi h, filterMap_all (h := g) fun _ _ => rfl]
/-- a comprehension whose turns draw: each takes d of the store I -/
theorem compL_st {f : T → Slots → Option (Option T × Slots)} {Q : T → Prop} {I : Nat → Slots → Prop} (d : Nat) : ∀ {xs : List T} {n : Nat} {ρ : Slots}, (∀ x ∈ xs, ∀ n ρ, I (n + d) ρ → ∃ t ρ', f x (wipeS own ρ) = some (some t, ρ') ∧ Q t ∧ I n ρ') → I (n + d * xs.length) ρ →
    ∃ ts ρ', compL own f xs ρ = some (ts, ρ') ∧ ts.length = xs.length ∧ (∀ t ∈ ts, Q t) ∧ I n ρ'
  | [], n, ρ, _, e => ⟨[], ρ, rfl, rfl, (fun _ h => by cases h), by simpa using e⟩
  | x :: xs, n, ρ, h, e => by
    obtain ⟨t, ρ1, h1, q1, e1⟩ := h x List.mem_cons_self (n + d * xs.length) ρ (by
      rw [List.length_cons, Nat.mul_succ, ← Nat.add_assoc] at e; exact e)
    obtain ⟨ts, ρ2, h2, l2, q2, e2⟩ := compL_st d (fun y hy => h y (List.mem_cons_of_mem _ hy)) e1
    refine ⟨t :: ts, ρ2, ?_, by simp [l2], fun u hu => ?_, e2⟩
    · unfold compL
      rw [h1, bnd_ok, h2, bnd_ok]
    · rcases List.mem_cons.mp hu with rfl | hu
      · exact q1
      · exact q2 u hu
/-- a loop that runs to its end -/
theorem forL_run {α : Type} {f : T → Slots → Option (Out × Slots)} {mk : α → T} (R : List α → Slots → Prop) : ∀ {xs done : List α} {ρ : Slots}, R done ρ → (∀ done a ρ, a ∈ xs → R done ρ → ∃ o ρ', f (mk a) ρ = some (o, ρ') ∧ (o = .next ∨ o = .cont) ∧ R (done ++ [a]) ρ') →
    ∃ ρ', forL f (xs.map mk) ρ = some (.next, ρ') ∧ R (done ++ xs) ρ'
  | [], done, ρ, r, _ => ⟨ρ, rfl, by rw [List.append_nil]; exact r⟩
  | a :: xs, done, ρ, r, h => by
    obtain ⟨o, ρ1, h1, ho, r1⟩ := h done a ρ List.mem_cons_self r
    obtain ⟨ρ2, h2, r2⟩ := forL_run R r1 fun d b ρ hb => h d b ρ (List.mem_cons_of_mem _ hb)
    refine ⟨ρ2, ?_, by rw [show done ++ a :: xs = done ++ [a] ++ xs by simp]; exact r2⟩
    rw [List.map_cons]
    unfold forL
    rw [h1, bnd_ok]
    rcases ho with rfl | rfl <;> exact h2
end
end Mk
set_option maxHeartbeats 4000000
/-! Mk: what changes no slot; comprehensions as functions. -/
namespace Mk
open PySem L2
def E.isVar : E → Bool
  | .var _ => true
  | _ => false
mutual
def E.qt (fz : Nat → Bool) : E → Bool
  | .k _ => true
  | .g _ => true
  | .var i => fz i
  | .op _ es => es.qv fz
  | .sl x lo hi => (x.isVar || x.qt fz) && lo.qt fz && hi.qt fz
  | .tup es => es.qt fz
  | .lst es => es.qt fz
  | .ite c a b => c.qt fz && a.qt fz && b.qt fz
  | .and a b => a.qt fz && b.qt fz
  | .or a b => a.qt fz && b.qt fz
  | .not a => a.isVar || a.qt fz
  | .chain _ _ a b c => a.qt fz && b.qt fz && c.qt fz
  | .isi a _ _ => a.isVar || a.qt fz
  | .call _ _ => false
  | .callk _ es _ => es.qt fz
  | .callp _ es => es.qt fz
  | .comp own tg it cs elt => it.qt fz && tg.slots.all own.contains && cs.qt (fun i => own.contains i || fz i) && elt.qt (fun i => own.contains i || fz i)
  | .comp2 own own2 tg it cs tg2 it2 cs2 elt => it.qt fz && tg.slots.all own.contains && own2.all own.contains && tg2.slots.all own2.contains && cs.qt (fun i => own.contains i || fz i) && it2.qt (fun i => own.contains i || fz i) &&
      cs2.qt (fun i => own.contains i || fz i) && elt.qt (fun i => own.contains i || fz i)
  | .pop _ _ => false
  | .pop0 _ => false
  | .rgl _ a => a.qt fz
  | .rgl2 _ a b => a.qt fz && b.qt fz
  | .fld _ _ _ => true
  | .fidx _ _ _ e => e.isVar || e.qt fz
  | .flen _ _ _ => true
  | .new _ _ _ es => es.qt fz
  | .meth _ _ _ => false
  | .methp _ _ es => es.qt fz
  | .bor _ => true
  | .call0 _ => true
  | .sd e => e.qt fz
def Es.qv (fz : Nat → Bool) : Es → Bool
  | .nil => true
  | .cons e es => (e.isVar || e.qt fz) && es.qv fz
def Es.qt (fz : Nat → Bool) : Es → Bool
  | .nil => true
  | .cons e es => e.qt fz && es.qt fz
def Op.qt (fz : Nat → Bool) : Op → Bool
  | .no => true
  | .some e => e.isVar || e.qt fz
def C.qt (fz : Nat → Bool) : C → Bool
  | .val e => e.isVar || e.qt fz
  | .not c => c.qt fz
  | .and a b => a.qt fz && b.qt fz
  | .or a b => a.qt fz && b.qt fz
def Cs.qt (fz : Nat → Bool) : Cs → Bool
  | .nil => true
  | .cons c cs => c.qt fz && cs.qt fz
def I.qt (fz : Nat → Bool) : I → Bool
  | .seq e => e.qt fz
  | .range1 a => a.qt fz
  | .range2 a b => a.qt fz && b.qt fz
  | .enum a => a.qt fz
  | .zip a b => a.qt fz && b.qt fz
  | .range3 a b c => a.qt fz && b.qt fz && c.qt fz
  | .zip3 a b c => a.qt fz && b.qt fz && c.qt fz
end
/-- a slot that holds nothing that may change -/
def fzM : Option M → Bool
  | none => true
  | some (.bx (.fz _)) => true
  | _ => false
def FzOk (fz : Nat → Bool) (ρ : Slots) : Prop := ∀ i m, fz i = true → ρ[i]? = some m → fzM m = true
theorem fz_get {fz : Nat → Bool} {ρ : Slots} {i : Nat} {m : M} (h : FzOk fz ρ) (hi : fz i = true) (e : ρ[i]? = some (some m)) : ∃ t, m = mt t := by
  have q := h i _ hi e
  cases m with
  | bx x => cases x <;> first | exact ⟨_, rfl⟩ | cases q
  | ob _ _ => cases q
theorem slot_isVar {e : E} {i : Nat} (h : e.slot? = some i) : e = .var i := by
  cases e <;> first | (cases h; done) | (cases h; rfl)
theorem slot_nv {e : E} (h : e.slot? = none) : e.isVar = false := by
  cases e <;> first | rfl | cases h
theorem v1_qt {e : E} {fz : Nat → Bool} {r : Slots → Option (M × Slots)} {ρ ρ' : Slots} {t : T} (hr : e.qt fz = true → ∀ {m ρ'}, r ρ = some (m, ρ') → ρ' = ρ) (q : (e.isVar || e.qt fz) = true) (h : v1 e.slot? r ρ = some (t, ρ')) : ρ' = ρ := by
  unfold v1 at h
  split at h
  · split at h
    · cases h; rfl
    · cases h
  · rename_i hs
    rw [slot_nv hs, Bool.false_or] at q
    replace h := bnd_some h; obtain ⟨m, ρ1, e1, h⟩ := h
    replace h := obd_some h; obtain ⟨t', _, h⟩ := h
    cases h
    exact hr q e1
theorem f1_qt {r : Option (M × Slots)} {ρ ρ' : Slots} {t : T} (hr : ∀ {m ρ'}, r = some (m, ρ') → ρ' = ρ) (h : f1 r = some (t, ρ')) : ρ' = ρ := by
  unfold f1 at h
  replace h := bnd_some h; obtain ⟨m, ρ1, e1, h⟩ := h
  replace h := obd_some h; obtain ⟨t', _, h⟩ := h
  cases h
  exact hr e1
theorem wipeS_idem {own : List Nat} {ρ : Slots} : wipeS own (wipeS own ρ) = wipeS own ρ := wipeS_sub fun _ h => h
theorem store_t2 {pin : List Nat} {a b : Tg} {t : T} {ρ ρ' : Slots} (h : (Tg.t2 a b).store pin t ρ = some ρ') : ∃ x y ρ1, a.store pin x ρ = some ρ1 ∧ b.store pin y ρ1 = some ρ' := by
  obtain ⟨x, y, _, e⟩ := store2 h
  obtain ⟨ρ1, e1, e⟩ := obd_some e
  exact ⟨x, y, ρ1, e1, e⟩
theorem store_t3 {pin : List Nat} {a b c : Tg} {t : T} {ρ ρ' : Slots} (h : (Tg.t3 a b c).store pin t ρ = some ρ') : ∃ x y z ρ1 ρ2, a.store pin x ρ = some ρ1 ∧ b.store pin y ρ1 = some ρ2 ∧ c.store pin z ρ2 = some ρ' := by
  obtain ⟨x, y, z, _, e⟩ := store3 h
  obtain ⟨ρ1, e1, e⟩ := obd_some e
  obtain ⟨ρ2, e2, e⟩ := obd_some e
  exact ⟨x, y, z, ρ1, ρ2, e1, e2, e⟩
theorem store_t4 {pin : List Nat} {a b c d : Tg} {t : T} {ρ ρ' : Slots} (h : (Tg.t4 a b c d).store pin t ρ = some ρ') : ∃ x y z w ρ1 ρ2 ρ3, a.store pin x ρ = some ρ1 ∧ b.store pin y ρ1 = some ρ2 ∧ c.store pin z ρ2 = some ρ3 ∧ d.store pin w ρ3 = some ρ' := by
  obtain ⟨x, y, z, w, _, e⟩ := store4 h
  obtain ⟨ρ1, e1, e⟩ := obd_some e
  obtain ⟨ρ2, e2, e⟩ := obd_some e
  obtain ⟨ρ3, e3, e⟩ := obd_some e
  exact ⟨x, y, z, w, ρ1, ρ2, ρ3, e1, e2, e3, e⟩
theorem store_out {pin own : List Nat} : ∀ {tg : Tg} {t : T} {ρ ρ' : Slots}, tg.store pin t ρ = some ρ' → tg.slots.all own.contains = true → wipeS own ρ' = wipeS own ρ
  | .nm i, t, ρ, ρ', h, ho => by
    have hi : i ∈ own := by simpa [Tg.slots] using ho
    have h : (if i < ρ.length ∧ i ∉ pin then some (ρ.set i (some (mt t))) else none) = some ρ' := h
    split at h
    · cases h
      refine List.ext_getElem? fun j => ?_
      rw [wipeS_get, wipeS_get, List.length_set]
      by_cases hj : j ∈ own ∧ j < ρ.length
      · rw [if_pos hj, if_pos hj]
      · rw [if_neg hj, if_neg hj]
        by_cases e : j = i
        · subst e
          have hl : ¬ j < ρ.length := fun z => hj ⟨hi, z⟩
          rw [List.getElem?_eq_none (by rw [List.length_set]; omega), List.getElem?_eq_none (by omega)]
        · rw [List.getElem?_set_ne (Ne.symm e)]
    · cases h
  | .t2 a b, t, ρ, ρ', h, ho => by
    unfold Tg.slots at ho
    rw [List.all_append, Bool.and_eq_true] at ho
    obtain ⟨x, y, ρ1, e1, e2⟩ := store_t2 h
    exact (store_out e2 ho.2).trans (store_out e1 ho.1)
  | .t3 a b c, t, ρ, ρ', h, ho => by
    unfold Tg.slots at ho
    rw [List.all_append, List.all_append, Bool.and_eq_true, Bool.and_eq_true] at ho
    obtain ⟨x, y, z, ρ1, ρ2, e1, e2, e3⟩ := store_t3 h
    exact (store_out e3 ho.2).trans ((store_out e2 ho.1.2).trans (store_out e1 ho.1.1))
  | .t4 a b c d, t, ρ, ρ', h, ho => by
    unfold Tg.slots at ho
    rw [List.all_append, List.all_append, List.all_append, Bool.and_eq_true, Bool.and_eq_true, Bool.and_eq_true] at ho
    obtain ⟨x, y, z, w, ρ1, ρ2, ρ3, e1, e2, e3, e4⟩ := store_t4 h
    exact (store_out e4 ho.2).trans ((store_out e3 ho.1.2).trans ((store_out e2 ho.1.1.2).trans (store_out e1 ho.1.1.1)))
theorem store_fz {pin : List Nat} {fz : Nat → Bool} : ∀ {tg : Tg} {t : T} {ρ ρ' : Slots}, tg.store pin t ρ = some ρ' → FzOk fz ρ → FzOk fz ρ'
  | .nm i, t, ρ, ρ', h, q => by
    have h : (if i < ρ.length ∧ i ∉ pin then some (ρ.set i (some (mt t))) else none) = some ρ' := h
    split at h
    · cases h
      intro j m hj e
      by_cases ej : i = j
      · subst ej
        rename_i hl
        rw [List.getElem?_set_self hl.1] at e
        cases e; rfl
      · rw [List.getElem?_set_ne ej] at e
        exact q j m hj e
    · cases h
  | .t2 a b, t, ρ, ρ', h, q => by
    obtain ⟨x, y, ρ1, e1, e2⟩ := store_t2 h
    exact store_fz e2 (store_fz e1 q)
  | .t3 a b c, t, ρ, ρ', h, q => by
    obtain ⟨x, y, z, ρ1, ρ2, e1, e2, e3⟩ := store_t3 h
    exact store_fz e3 (store_fz e2 (store_fz e1 q))
  | .t4 a b c d, t, ρ, ρ', h, q => by
    obtain ⟨x, y, z, w, ρ1, ρ2, ρ3, e1, e2, e3, e4⟩ := store_t4 h
    exact store_fz e4 (store_fz e3 (store_fz e2 (store_fz e1 q)))
theorem wipe_fz {own : List Nat} {fz : Nat → Bool} {ρ : Slots} (q : FzOk fz ρ) : FzOk (fun i => own.contains i || fz i) (wipeS own ρ) := by
  intro i m hi e
  rw [wipeS_get] at e
  split at e
  · cases e; rfl
  · rename_i hn
    have hl : i < ρ.length := (List.getElem?_eq_some_iff.mp e).1
    have ho : own.contains i = false := by
      cases h : own.contains i with
      | false => rfl
      | true => exact absurd ⟨List.contains_iff_mem.mp h, hl⟩ hn
    have hi : (own.contains i || fz i) = true := hi
    rw [ho, Bool.false_or] at hi
    exact q i m hi e
/-- the values of a comprehension's turns -/
def filterO {α β : Type} (f : α → Option (Option β)) : List α → Option (List β)
  | [] => some []
  | x :: xs => obd (f x) fun y => obd (filterO f xs) fun ys => some (match y with | some y => y :: ys | none => ys)
def mapO {α β : Type} (f : α → Option β) : List α → Option (List β)
  | [] => some []
  | x :: xs => obd (f x) fun y => obd (mapO f xs) fun ys => some (y :: ys)
theorem compL_q {own : List Nat} {f : T → Slots → Option (Option T × Slots)} {ρ0 : Slots} (hf : ∀ x y ρ', f x (wipeS own ρ0) = some (y, ρ') → wipeS own ρ' = wipeS own ρ0) :
    ∀ {xs : List T} {ρ : Slots}, wipeS own ρ = wipeS own ρ0 → (compL own f xs ρ).map (·.1) = filterO (fun x => (f x (wipeS own ρ0)).map (·.1)) xs ∧ ∀ ys ρ1, compL own f xs ρ = some (ys, ρ1) → wipeS own ρ1 = wipeS own ρ0
  | [], ρ, h => ⟨rfl, fun ys ρ1 e => by cases e; exact h⟩
  | x :: xs, ρ, h => by
    unfold compL filterO
    rw [h]
    cases q : f x (wipeS own ρ0) with
    | none => exact ⟨rfl, fun ys ρ1 e => by cases e⟩
    | some p =>
      obtain ⟨y, ρ1⟩ := p
      obtain ⟨i1, i2⟩ := compL_q hf (xs := xs) (hf x y ρ1 q)
      rw [bnd_ok, Option.map_some, obd_ok, ← i1]
      cases q2 : compL own f xs ρ1 with
      | none => exact ⟨rfl, fun ys ρ1 e => by cases e⟩
      | some p2 =>
        refine ⟨by cases y <;> rfl, fun ys ρ2 e => ?_⟩
        cases e
        exact i2 _ _ q2
theorem compLL_q {own : List Nat} {f : T → Slots → Option (List T × Slots)} {ρ0 : Slots} (hf : ∀ x y ρ', f x (wipeS own ρ0) = some (y, ρ') → wipeS own ρ' = wipeS own ρ0) :
    ∀ {xs : List T} {ρ : Slots}, wipeS own ρ = wipeS own ρ0 → (compLL own f xs ρ).map (·.1) = (mapO (fun x => (f x (wipeS own ρ0)).map (·.1)) xs).map List.flatten ∧ ∀ ys ρ1, compLL own f xs ρ = some (ys, ρ1) → wipeS own ρ1 = wipeS own ρ0
  | [], ρ, h => ⟨rfl, fun ys ρ1 e => by cases e; exact h⟩
  | x :: xs, ρ, h => by
    unfold compLL mapO
    rw [h]
    cases q : f x (wipeS own ρ0) with
    | none => exact ⟨rfl, fun ys ρ1 e => by cases e⟩
    | some p =>
      obtain ⟨y, ρ1⟩ := p
      obtain ⟨i1, i2⟩ := compLL_q hf (xs := xs) (hf x y ρ1 q)
      rw [bnd_ok, Option.map_some, obd_ok]
      cases q2 : compLL own f xs ρ1 with
      | none =>
        rw [q2] at i1
        cases q3 : mapO (fun x => (f x (wipeS own ρ0)).map (·.1)) xs with
        | none => exact ⟨rfl, fun ys ρ1 e => by cases e⟩
        | some z => rw [q3] at i1; cases i1
      | some p2 =>
        rw [q2] at i1
        cases q3 : mapO (fun x => (f x (wipeS own ρ0)).map (·.1)) xs with
        | none => rw [q3] at i1; cases i1
        | some z =>
          rw [q3] at i1
          have i1 : p2.1 = z.flatten := Option.some.inj i1
          refine ⟨?_, fun ys ρ2 e => ?_⟩
          · rw [bnd_ok, obd_ok]
            show some (y ++ p2.1) = some (y :: z).flatten
            rw [List.flatten_cons, ← i1]
          · cases e
            exact i2 _ _ q2
section
variable {G : Gc}
abbrev turn2F (G : Gc) (own2 : List Nat) (tg : Tg) (cs : Cs) (tg2 : Tg) (it2 : I) (cs2 : Cs) (elt : E) : T → Slots → Option (List T × Slots) := fun x ρ => obd (tg.store G.pin x ρ) fun ρ => bnd (evCs G cs ρ) fun k ρ =>
      if k = true then bnd (evI G it2 ρ) fun zs ρ => compL own2 (fun z ρ => obd (tg2.store G.pin z ρ) fun ρ => bnd (evCs G cs2 ρ) fun k ρ =>
        if k = true then bnd (f1 (ev G elt ρ)) fun t ρ => some (some t, ρ) else some (none, ρ)) zs ρ else some ([], ρ)
mutual
theorem ev_q : ∀ (e : E) {fz : Nat → Bool} {ρ ρ' : Slots} {m : M}, FzOk fz ρ → e.qt fz = true → ev G e ρ = some (m, ρ') → ρ' = ρ
  | .k _, _, _, _, _, _, _, h => by unfold ev at h; cases h; rfl
  | .g j, _, _, _, _, _, _, h => by
    unfold ev at h
    replace h := obd_some h; obtain ⟨t, _, h⟩ := h
    cases h; rfl
  | .var i, fz, ρ, ρ', m, hz, q, h => by
    unfold ev at h
    have q : fz i = true := q
    split at h
    · cases h; rfl
    · rename_i x hn e
      obtain ⟨t, ht⟩ := fz_get hz q e
      cases ht
      exact absurd rfl (hn t)
    · cases h
  | .op p es, fz, ρ, ρ', m, hz, q, h => by
    unfold ev at h
    replace h := bnd_some h; obtain ⟨ts, ρ1, e1, h⟩ := h
    replace h := obd_some h; obtain ⟨m', _, h⟩ := h
    cases h
    exact evs_q es hz (by unfold E.qt at q; exact q) e1
  | .sl x lo hi, fz, ρ, ρ', m, hz, q, h => by
    unfold E.qt at q
    simp only [Bool.and_eq_true] at q
    unfold ev at h
    split at h
    · replace h := bnd_some h; obtain ⟨t, ρ1, e1, h⟩ := h
      replace h := bnd_some h; obtain ⟨a, ρ2, e2, h⟩ := h
      replace h := bnd_some h; obtain ⟨b, ρ3, e3, h⟩ := h
      replace h := obd_some h; obtain ⟨m', _, h⟩ := h
      cases h
      have r1 := v1_qt (fun z => ev_q x hz z) q.1.1 e1
      subst r1
      have r2 := evO_q lo hz q.1.2 e2
      subst r2
      exact evO_q hi hz q.2 e3
    · cases h
  | .tup es, fz, ρ, ρ', m, hz, q, h => by
    unfold E.qt at q
    unfold ev at h
    replace h := bnd_some h; obtain ⟨ts, ρ1, e1, h⟩ := h
    split at h
    · cases h; exact evf_q es hz q e1
    · cases h
  | .lst es, fz, ρ, ρ', m, hz, q, h => by
    unfold E.qt at q
    unfold ev at h
    replace h := bnd_some h; obtain ⟨ts, ρ1, e1, h⟩ := h
    split at h
    · cases h; exact evf_q es hz q e1
    · cases h
  | .ite c a b, fz, ρ, ρ', m, hz, q, h => by
    unfold E.qt at q
    simp only [Bool.and_eq_true] at q
    unfold ev at h
    replace h := bnd_some h; obtain ⟨k, ρ1, e1, h⟩ := h
    have r1 := evC_q c hz q.1.1 e1
    subst r1
    split at h
    · exact ev_q a hz q.1.2 h
    · exact ev_q b hz q.2 h
  | .and a b, fz, ρ, ρ', m, hz, q, h => by
    unfold E.qt at q
    simp only [Bool.and_eq_true] at q
    unfold ev at h
    replace h := bnd_some h; obtain ⟨m1, ρ1, e1, h⟩ := h
    replace h := obd_some h; obtain ⟨t, _, h⟩ := h
    replace h := obd_some h; obtain ⟨k, _, h⟩ := h
    have r1 := ev_q a hz q.1 e1
    subst r1
    split at h
    · exact ev_q b hz q.2 h
    · cases h; rfl
  | .or a b, fz, ρ, ρ', m, hz, q, h => by
    unfold E.qt at q
    simp only [Bool.and_eq_true] at q
    unfold ev at h
    replace h := bnd_some h; obtain ⟨m1, ρ1, e1, h⟩ := h
    replace h := obd_some h; obtain ⟨t, _, h⟩ := h
    replace h := obd_some h; obtain ⟨k, _, h⟩ := h
    have r1 := ev_q a hz q.1 e1
    subst r1
    split at h
    · cases h; rfl
    · exact ev_q b hz q.2 h
  | .not a, fz, ρ, ρ', m, hz, q, h => by
    unfold E.qt at q
    unfold ev at h
    replace h := bnd_some h; obtain ⟨t, ρ1, e1, h⟩ := h
    replace h := obd_some h; obtain ⟨k, _, h⟩ := h
    cases h
    exact v1_qt (fun z => ev_q a hz z) q e1
  | .chain p p2 a b c, fz, ρ, ρ', m, hz, q, h => by
    unfold E.qt at q
    simp only [Bool.and_eq_true] at q
    unfold ev at h
    replace h := bnd_some h; obtain ⟨x, ρ1, e1, h⟩ := h
    have r1 := f1_qt (fun z => ev_q a hz q.1.1 z) e1
    subst r1
    replace h := bnd_some h; obtain ⟨y, ρ2, e2, h⟩ := h
    have r2 := f1_qt (fun z => ev_q b hz q.1.2 z) e2
    subst r2
    replace h := obd_some h; obtain ⟨r, _, h⟩ := h
    split at h
    · replace h := bnd_some h; obtain ⟨z, ρ3, e3, h⟩ := h
      replace h := obd_some h; obtain ⟨r', _, h⟩ := h
      cases h
      exact f1_qt (fun z => ev_q c hz q.2 z) e3
    · cases h; rfl
    · cases h
  | .isi a cs many, fz, ρ, ρ', m, hz, q, h => by
    unfold E.qt at q
    unfold ev at h
    replace h := bnd_some h; obtain ⟨t, ρ1, e1, h⟩ := h
    replace h := obd_some h; obtain ⟨k, _, h⟩ := h
    cases h
    exact v1_qt (fun z => ev_q a hz z) q e1
  | .call _ _, _, _, _, _, _, q, _ => by unfold E.qt at q; cases q
  | .callk j es perm, fz, ρ, ρ', m, hz, q, h => by
    unfold E.qt at q
    unfold ev at h
    replace h := bnd_some h; obtain ⟨ts, ρ1, e1, h⟩ := h
    replace h := obd_some h; obtain ⟨m', _, h⟩ := h
    cases h
    exact evf_q es hz q e1
  | .callp j es, fz, ρ, ρ', m, hz, q, h => by
    unfold E.qt at q
    unfold ev at h
    replace h := bnd_some h; obtain ⟨ts, ρ1, e1, h⟩ := h
    replace h := obd_some h; obtain ⟨m', _, h⟩ := h
    cases h
    exact evf_q es hz q e1
  | .comp own tg it cs elt, fz, ρ, ρ', m, hz, q, h => by
    unfold E.qt at q
    simp only [Bool.and_eq_true] at q
    obtain ⟨⟨⟨q1, q2⟩, q3⟩, q4⟩ := q
    rw [ev_comp] at h
    replace h := bnd_some h; obtain ⟨xs, ρ0, e1, h⟩ := h
    have r1 := evI_q it hz q1 e1
    subst r1
    replace h := bnd_some h; obtain ⟨ys, ρ2, e2, h⟩ := h
    cases h
    refine back_same ((compL_q (fun x y ρ' e => ?_) rfl).2 _ _ e2)
    replace e := obd_some e; obtain ⟨ρ3, e3, e⟩ := e
    replace e := bnd_some e; obtain ⟨k, ρ4, e4, e⟩ := e
    have z3 := store_fz e3 (wipe_fz (own := own) hz)
    have r4 := evCs_q cs z3 q3 e4
    subst r4
    have w3 := (store_out e3 q2).trans wipeS_idem
    split at e
    · replace e := bnd_some e; obtain ⟨t, ρ5, e5, e⟩ := e
      cases e
      have r5 := f1_qt (fun z => ev_q elt z3 q4 z) e5
      subst r5
      exact w3
    · cases e
      exact w3
  | .comp2 own own2 tg it cs tg2 it2 cs2 elt, fz, ρ, ρ', m, hz, q, h => by
    unfold E.qt at q
    simp only [Bool.and_eq_true] at q
    obtain ⟨⟨⟨⟨⟨⟨⟨q1, q2⟩, q3⟩, q4⟩, q5⟩, q6⟩, q7⟩, q8⟩ := q
    rw [ev_comp2] at h
    replace h := bnd_some h; obtain ⟨xs, ρ0, e1, h⟩ := h
    have r1 := evI_q it hz q1 e1
    subst r1
    replace h := bnd_some h; obtain ⟨ys, ρ2, e2, h⟩ := h
    split at h
    · cases h
      refine back_same ((compLL_q (fun x y ρ' e => ?_) rfl).2 _ _ e2)
      replace e := obd_some e; obtain ⟨ρ3, e3, e⟩ := e
      replace e := bnd_some e; obtain ⟨k, ρ4, e4, e⟩ := e
      have z3 := store_fz e3 (wipe_fz (own := own) hz)
      have r4 := evCs_q cs z3 q5 e4
      subst r4
      have w3 := (store_out e3 q2).trans wipeS_idem
      split at e
      · replace e := bnd_some e; obtain ⟨zs, ρ5, e5, e⟩ := e
        have r5 := evI_q it2 z3 q6 e5
        subst r5
        have sub : ∀ i ∈ own2, i ∈ own := fun i hi => List.contains_iff_mem.mp (List.all_eq_true.mp q3 i hi)
        have r6 := (compL_q (ρ0 := ρ5) (fun x y ρ' e => ?_) rfl).2 _ _ e
        · have := congrArg (wipeS own) r6
          rw [wipeS_sub sub, wipeS_sub sub] at this
          exact this.trans w3
        · replace e := obd_some e; obtain ⟨ρ6, e6, e⟩ := e
          replace e := bnd_some e; obtain ⟨k2, ρ7, e7, e⟩ := e
          have z5 : FzOk (fun i => own.contains i || fz i) (wipeS own2 ρ5) := fun i m hi e => by
            rw [wipeS_get] at e
            split at e
            · cases e; rfl
            · exact z3 i m hi e
          have z6 := store_fz e6 z5
          have r7 := evCs_q cs2 z6 q7 e7
          subst r7
          have w6 := (store_out e6 q4).trans wipeS_idem
          split at e
          · replace e := bnd_some e; obtain ⟨t, ρ8, e8, e⟩ := e
            cases e
            have r8 := f1_qt (fun z => ev_q elt z6 q8 z) e8
            subst r8
            exact w6
          · cases e
            exact w6
      · cases e
        exact w3
    · cases h
  | .pop _ _, _, _, _, _, _, q, _ => by unfold E.qt at q; cases q
  | .pop0 _, _, _, _, _, _, q, _ => by unfold E.qt at q; cases q
  | .rgl tup a, fz, ρ, ρ', m, hz, q, h => by
    unfold E.qt at q
    unfold ev at h
    replace h := bnd_some h; obtain ⟨t, ρ1, e1, h⟩ := h
    replace h := obd_some h; obtain ⟨n, _, h⟩ := h
    replace h := obd_some h; obtain ⟨xs, _, h⟩ := h
    cases h
    exact f1_qt (fun z => ev_q a hz q z) e1
  | .rgl2 tup a b, fz, ρ, ρ', m, hz, q, h => by
    unfold E.qt at q
    simp only [Bool.and_eq_true] at q
    unfold ev at h
    replace h := bnd_some h; obtain ⟨s, ρ1, e1, h⟩ := h
    replace h := bnd_some h; obtain ⟨t, ρ2, e2, h⟩ := h
    replace h := obd_some h; obtain ⟨n, _, h⟩ := h
    replace h := obd_some h; obtain ⟨n2, _, h⟩ := h
    replace h := obd_some h; obtain ⟨xs, _, h⟩ := h
    cases h
    have r1 := f1_qt (fun z => ev_q a hz q.1 z) e1
    subst r1
    exact f1_qt (fun z => ev_q b hz q.2 z) e2
  | .fld i cn f, fz, ρ, ρ', m, hz, q, h => by
    unfold ev at h
    replace h := obd_some h; obtain ⟨ci, _, h⟩ := h
    replace h := obd_some h; obtain ⟨t, _, h⟩ := h
    cases h
    rfl
  | .fidx i cn f e, fz, ρ, ρ', m, hz, q, h => by
    unfold E.qt at q
    unfold ev at h
    split at h
    · replace h := obd_some h; obtain ⟨ci, _, h⟩ := h
      replace h := obd_some h; obtain ⟨t, _, h⟩ := h
      replace h := bnd_some h; obtain ⟨k, ρ1, e1, h⟩ := h
      replace h := obd_some h; obtain ⟨m', _, h⟩ := h
      cases h
      exact v1_qt (fun z => ev_q e hz z) q e1
    · cases h
  | .flen i cn f, fz, ρ, ρ', m, hz, q, h => by
    unfold ev at h
    replace h := obd_some h; obtain ⟨ci, _, h⟩ := h
    replace h := obd_some h; obtain ⟨t, _, h⟩ := h
    replace h := obd_some h; obtain ⟨m', _, h⟩ := h
    cases h
    rfl
  | .new j cn n es, fz, ρ, ρ', m, hz, q, h => by
    unfold E.qt at q
    unfold ev at h
    replace h := bnd_some h; obtain ⟨ts, ρ1, e1, h⟩ := h
    replace h := obd_some h; obtain ⟨ci, _, h⟩ := h
    replace h := obd_some h; obtain ⟨fn, _, h⟩ := h
    split at h
    · replace h := bnd_some h; obtain ⟨m1, ρ2, _, h⟩ := h
      replace h := obd_some h; obtain ⟨m', _, h⟩ := h
      cases h
      exact evf_q es hz q e1
    · cases h
  | .meth _ _ _, _, _, _, _, _, q, _ => by unfold E.qt at q; cases q
  | .methp j cn es, fz, ρ, ρ', m, hz, q, h => by
    unfold E.qt at q
    unfold ev at h
    replace h := obd_some h; obtain ⟨ci, _, h⟩ := h
    replace h := bnd_some h; obtain ⟨ts, ρ1, e1, h⟩ := h
    split at h
    · replace h := obd_some h; obtain ⟨m', _, h⟩ := h
      cases h
      exact evf_q es hz q e1
    · cases h
  | .bor e, fz, ρ, ρ', m, hz, q, h => by
    unfold ev at h
    replace h := bnd_some h; obtain ⟨m1, ρ1, e1, h⟩ := h
    split at h
    · cases h; rfl
    · cases h
  | .call0 j, fz, ρ, ρ', m, hz, q, h => by
    unfold ev at h
    replace h := obd_some h; obtain ⟨m', _, h⟩ := h
    cases h
    rfl
  | .sd e, fz, ρ, ρ', m, hz, q, h => by
    unfold E.qt at q
    unfold ev at h
    replace h := bnd_some h; obtain ⟨m1, ρ1, e1, h⟩ := h
    replace h := obd_some h; obtain ⟨m2, _, h⟩ := h
    cases h
    exact ev_q e hz q e1
termination_by e => sizeOf e
theorem evs_q : ∀ (es : Es) {fz : Nat → Bool} {ρ ρ' : Slots} {ts : List T}, FzOk fz ρ → es.qv fz = true → evs G es ρ = some (ts, ρ') → ρ' = ρ
  | .nil, _, _, _, _, _, _, h => by unfold evs at h; cases h; rfl
  | .cons e es, fz, ρ, ρ', ts, hz, q, h => by
    unfold Es.qv at q
    rw [Bool.and_eq_true] at q
    unfold evs at h
    split at h
    · split at h
      · replace h := bnd_some h; obtain ⟨ts', ρ1, e1, h⟩ := h
        cases h
        exact evs_q es hz q.2 e1
      · split at h
        · replace h := bnd_some h; obtain ⟨ts', ρ1, e1, h⟩ := h
          cases h
          exact evs_q es hz q.2 e1
        · cases h
      · cases h
    · rename_i hs
      replace h := bnd_some h; obtain ⟨m, ρ1, e1, h⟩ := h
      replace h := obd_some h; obtain ⟨t, _, h⟩ := h
      replace h := bnd_some h; obtain ⟨ts', ρ2, e2, h⟩ := h
      cases h
      have q1 := q.1
      rw [slot_nv hs, Bool.false_or] at q1
      have r1 := ev_q e hz q1 e1
      subst r1
      exact evs_q es hz q.2 e2
termination_by es => sizeOf es
theorem evf_q : ∀ (es : Es) {fz : Nat → Bool} {ρ ρ' : Slots} {ts : List T}, FzOk fz ρ → es.qt fz = true → evf G es ρ = some (ts, ρ') → ρ' = ρ
  | .nil, _, _, _, _, _, _, h => by unfold evf at h; cases h; rfl
  | .cons e es, fz, ρ, ρ', ts, hz, q, h => by
    unfold Es.qt at q
    rw [Bool.and_eq_true] at q
    unfold evf at h
    replace h := bnd_some h; obtain ⟨m, ρ1, e1, h⟩ := h
    replace h := obd_some h; obtain ⟨t, _, h⟩ := h
    replace h := bnd_some h; obtain ⟨ts', ρ2, e2, h⟩ := h
    cases h
    have r1 := ev_q e hz q.1 e1
    subst r1
    exact evf_q es hz q.2 e2
termination_by es => sizeOf es
theorem evO_q : ∀ (o : Op) {fz : Nat → Bool} {ρ ρ' : Slots} {t : Option Int}, FzOk fz ρ → o.qt fz = true → evO G o ρ = some (t, ρ') → ρ' = ρ
  | .no, _, _, _, _, _, _, h => by unfold evO at h; cases h; rfl
  | .some e, fz, ρ, ρ', t, hz, q, h => by
    unfold Op.qt at q
    unfold evO at h
    replace h := bnd_some h; obtain ⟨u, ρ1, e1, h⟩ := h
    replace h := obd_some h; obtain ⟨i, _, h⟩ := h
    cases h
    exact v1_qt (fun z => ev_q e hz z) q e1
termination_by o => sizeOf o
theorem evC_q : ∀ (c : C) {fz : Nat → Bool} {ρ ρ' : Slots} {k : Bool}, FzOk fz ρ → c.qt fz = true → evC G c ρ = some (k, ρ') → ρ' = ρ
  | .val e, fz, ρ, ρ', k, hz, q, h => by
    unfold C.qt at q
    unfold evC at h
    replace h := bnd_some h; obtain ⟨u, ρ1, e1, h⟩ := h
    replace h := obd_some h; obtain ⟨i, _, h⟩ := h
    cases h
    exact v1_qt (fun z => ev_q e hz z) q e1
  | .not c, fz, ρ, ρ', k, hz, q, h => by
    unfold C.qt at q
    unfold evC at h
    replace h := bnd_some h; obtain ⟨u, ρ1, e1, h⟩ := h
    cases h
    exact evC_q c hz q e1
  | .and a b, fz, ρ, ρ', k, hz, q, h => by
    unfold C.qt at q
    rw [Bool.and_eq_true] at q
    unfold evC at h
    replace h := bnd_some h; obtain ⟨u, ρ1, e1, h⟩ := h
    have r1 := evC_q a hz q.1 e1
    subst r1
    split at h
    · exact evC_q b hz q.2 h
    · cases h; rfl
  | .or a b, fz, ρ, ρ', k, hz, q, h => by
    unfold C.qt at q
    rw [Bool.and_eq_true] at q
    unfold evC at h
    replace h := bnd_some h; obtain ⟨u, ρ1, e1, h⟩ := h
    have r1 := evC_q a hz q.1 e1
    subst r1
    split at h
    · cases h; rfl
    · exact evC_q b hz q.2 h
termination_by c => sizeOf c
theorem evCs_q : ∀ (c : Cs) {fz : Nat → Bool} {ρ ρ' : Slots} {k : Bool}, FzOk fz ρ → c.qt fz = true → evCs G c ρ = some (k, ρ') → ρ' = ρ
  | .nil, fz, ρ, ρ', k, hz, q, h => by unfold evCs at h; cases h; rfl
  | .cons c cs, fz, ρ, ρ', k, hz, q, h => by
    unfold Cs.qt at q
    rw [Bool.and_eq_true] at q
    unfold evCs at h
    replace h := bnd_some h; obtain ⟨u, ρ1, e1, h⟩ := h
    have r1 := evC_q c hz q.1 e1
    subst r1
    split at h
    · exact evCs_q cs hz q.2 h
    · cases h; rfl
termination_by c => sizeOf c
theorem evI_q : ∀ (it : I) {fz : Nat → Bool} {ρ ρ' : Slots} {xs : List T}, FzOk fz ρ → it.qt fz = true → evI G it ρ = some (xs, ρ') → ρ' = ρ
  | .seq e, fz, ρ, ρ', xs, hz, q, h => by
    unfold I.qt at q
    unfold evI at h
    replace h := bnd_some h; obtain ⟨u, ρ1, e1, h⟩ := h
    replace h := obd_some h; obtain ⟨i, _, h⟩ := h
    cases h
    exact f1_qt (fun z => ev_q e hz q z) e1
  | .range1 e, fz, ρ, ρ', xs, hz, q, h => by
    unfold I.qt at q
    unfold evI at h
    replace h := bnd_some h; obtain ⟨u, ρ1, e1, h⟩ := h
    replace h := obd_some h; obtain ⟨i, _, h⟩ := h
    replace h := obd_some h; obtain ⟨i, _, h⟩ := h
    cases h
    exact f1_qt (fun z => ev_q e hz q z) e1
  | .range2 a b, fz, ρ, ρ', xs, hz, q, h => by
    unfold I.qt at q
    rw [Bool.and_eq_true] at q
    unfold evI at h
    replace h := bnd_some h; obtain ⟨u, ρ1, e1, h⟩ := h
    replace h := bnd_some h; obtain ⟨v, ρ2, e2, h⟩ := h
    replace h := obd_some h; obtain ⟨i, _, h⟩ := h
    replace h := obd_some h; obtain ⟨i, _, h⟩ := h
    replace h := obd_some h; obtain ⟨i, _, h⟩ := h
    cases h
    have r1 := f1_qt (fun z => ev_q a hz q.1 z) e1
    subst r1
    exact f1_qt (fun z => ev_q b hz q.2 z) e2
  | .enum e, fz, ρ, ρ', xs, hz, q, h => by
    unfold I.qt at q
    unfold evI at h
    replace h := bnd_some h; obtain ⟨u, ρ1, e1, h⟩ := h
    replace h := obd_some h; obtain ⟨i, _, h⟩ := h
    cases h
    exact f1_qt (fun z => ev_q e hz q z) e1
  | .zip a b, fz, ρ, ρ', xs, hz, q, h => by
    unfold I.qt at q
    rw [Bool.and_eq_true] at q
    unfold evI at h
    replace h := bnd_some h; obtain ⟨u, ρ1, e1, h⟩ := h
    replace h := bnd_some h; obtain ⟨v, ρ2, e2, h⟩ := h
    replace h := obd_some h; obtain ⟨i, _, h⟩ := h
    cases h
    have r1 := f1_qt (fun z => ev_q a hz q.1 z) e1
    subst r1
    exact f1_qt (fun z => ev_q b hz q.2 z) e2
  | .range3 a b c, fz, ρ, ρ', xs, hz, q, h => by
    unfold I.qt at q
    simp only [Bool.and_eq_true] at q
    unfold evI at h
    replace h := bnd_some h; obtain ⟨u, ρ1, e1, h⟩ := h
    replace h := bnd_some h; obtain ⟨v, ρ2, e2, h⟩ := h
    replace h := bnd_some h; obtain ⟨w, ρ3, e3, h⟩ := h
    replace h := obd_some h; obtain ⟨i, _, h⟩ := h
    replace h := obd_some h; obtain ⟨i, _, h⟩ := h
    replace h := obd_some h; obtain ⟨i, _, h⟩ := h
    replace h := obd_some h; obtain ⟨i, _, h⟩ := h
    cases h
    have r1 := f1_qt (fun z => ev_q a hz q.1.1 z) e1
    subst r1
    have r2 := f1_qt (fun z => ev_q b hz q.1.2 z) e2
    subst r2
    exact f1_qt (fun z => ev_q c hz q.2 z) e3
  | .zip3 a b c, fz, ρ, ρ', xs, hz, q, h => by
    unfold I.qt at q
    simp only [Bool.and_eq_true] at q
    unfold evI at h
    replace h := bnd_some h; obtain ⟨u, ρ1, e1, h⟩ := h
    replace h := bnd_some h; obtain ⟨v, ρ2, e2, h⟩ := h
    replace h := bnd_some h; obtain ⟨w, ρ3, e3, h⟩ := h
    replace h := obd_some h; obtain ⟨i, _, h⟩ := h
    cases h
    have r1 := f1_qt (fun z => ev_q a hz q.1.1 z) e1
    subst r1
    have r2 := f1_qt (fun z => ev_q b hz q.1.2 z) e2
    subst r2
    exact f1_qt (fun z => ev_q c hz q.2 z) e3
termination_by it => sizeOf it
end
end
/-! fewer slots need be quiet -/
mutual
theorem qt_E {fz fz2 : Nat → Bool} (h : ∀ i, fz i = true → fz2 i = true) : ∀ e : E, e.qt fz = true → e.qt fz2 = true
  | .k _, _ => rfl
  | .g _, _ => rfl
  | .var i, q => h i q
  | .op _ es, q => qt_v h es q
  | .sl x lo hi, q => by
    unfold E.qt at q ⊢
    simp only [Bool.and_eq_true, Bool.or_eq_true] at q ⊢
    exact ⟨⟨q.1.1.imp id (qt_E h x), qt_O h lo q.1.2⟩, qt_O h hi q.2⟩
  | .tup es, q => qt_f h es q
  | .lst es, q => qt_f h es q
  | .ite c a b, q => by
    unfold E.qt at q ⊢
    simp only [Bool.and_eq_true] at q ⊢
    exact ⟨⟨qt_C h c q.1.1, qt_E h a q.1.2⟩, qt_E h b q.2⟩
  | .and a b, q => by
    unfold E.qt at q ⊢
    simp only [Bool.and_eq_true] at q ⊢
    exact ⟨qt_E h a q.1, qt_E h b q.2⟩
  | .or a b, q => by
    unfold E.qt at q ⊢
    simp only [Bool.and_eq_true] at q ⊢
    exact ⟨qt_E h a q.1, qt_E h b q.2⟩
  | .not a, q => by
    unfold E.qt at q ⊢
    simp only [Bool.or_eq_true] at q ⊢
    exact q.imp id (qt_E h a)
  | .chain _ _ a b c, q => by
    unfold E.qt at q ⊢
    simp only [Bool.and_eq_true] at q ⊢
    exact ⟨⟨qt_E h a q.1.1, qt_E h b q.1.2⟩, qt_E h c q.2⟩
  | .isi a _ _, q => by
    unfold E.qt at q ⊢
    simp only [Bool.or_eq_true] at q ⊢
    exact q.imp id (qt_E h a)
  | .call _ _, q => by unfold E.qt at q; cases q
  | .callk _ es _, q => qt_f h es q
  | .callp _ es, q => qt_f h es q
  | .comp own tg it cs elt, q => by
    unfold E.qt at q ⊢
    simp only [Bool.and_eq_true] at q ⊢
    have h2 : ∀ i, (own.contains i || fz i) = true → (own.contains i || fz2 i) = true := fun i z => by
      rw [Bool.or_eq_true] at z ⊢
      exact z.imp id (h i)
    exact ⟨⟨⟨qt_I h it q.1.1.1, q.1.1.2⟩, qt_Cs h2 cs q.1.2⟩, qt_E h2 elt q.2⟩
  | .comp2 own own2 tg it cs tg2 it2 cs2 elt, q => by
    unfold E.qt at q ⊢
    simp only [Bool.and_eq_true] at q ⊢
    have h2 : ∀ i, (own.contains i || fz i) = true → (own.contains i || fz2 i) = true := fun i z => by
      rw [Bool.or_eq_true] at z ⊢
      exact z.imp id (h i)
    obtain ⟨⟨⟨⟨⟨⟨⟨q1, q2⟩, q3⟩, q4⟩, q5⟩, q6⟩, q7⟩, q8⟩ := q
    exact ⟨⟨⟨⟨⟨⟨⟨qt_I h it q1, q2⟩, q3⟩, q4⟩, qt_Cs h2 cs q5⟩, qt_I h2 it2 q6⟩, qt_Cs h2 cs2 q7⟩, qt_E h2 elt q8⟩
  | .pop _ _, q => by unfold E.qt at q; cases q
  | .pop0 _, q => by unfold E.qt at q; cases q
  | .rgl _ a, q => qt_E h a q
  | .rgl2 _ a b, q => by
    unfold E.qt at q ⊢
    simp only [Bool.and_eq_true] at q ⊢
    exact ⟨qt_E h a q.1, qt_E h b q.2⟩
  | .fld _ _ _, _ => rfl
  | .fidx _ _ _ e, q => by
    unfold E.qt at q ⊢
    simp only [Bool.or_eq_true] at q ⊢
    exact q.imp id (qt_E h e)
  | .flen _ _ _, _ => rfl
  | .new _ _ _ es, q => qt_f h es q
  | .meth _ _ _, q => by unfold E.qt at q; cases q
  | .methp _ _ es, q => qt_f h es q
  | .bor _, _ => rfl
  | .call0 _, _ => rfl
  | .sd e, q => qt_E h e q
termination_by e => sizeOf e
theorem qt_v {fz fz2 : Nat → Bool} (h : ∀ i, fz i = true → fz2 i = true) : ∀ e : Es, e.qv fz = true → e.qv fz2 = true
  | .nil, _ => rfl
  | .cons e es, q => by
    unfold Es.qv at q ⊢
    simp only [Bool.and_eq_true, Bool.or_eq_true] at q ⊢
    exact ⟨q.1.imp id (qt_E h e), qt_v h es q.2⟩
termination_by e => sizeOf e
theorem qt_f {fz fz2 : Nat → Bool} (h : ∀ i, fz i = true → fz2 i = true) : ∀ e : Es, e.qt fz = true → e.qt fz2 = true
  | .nil, _ => rfl
  | .cons e es, q => by
    unfold Es.qt at q ⊢
    simp only [Bool.and_eq_true] at q ⊢
    exact ⟨qt_E h e q.1, qt_f h es q.2⟩
termination_by e => sizeOf e
theorem qt_O {fz fz2 : Nat → Bool} (h : ∀ i, fz i = true → fz2 i = true) : ∀ e : Op, e.qt fz = true → e.qt fz2 = true
  | .no, _ => rfl
  | .some e, q => by
    unfold Op.qt at q ⊢
    simp only [Bool.or_eq_true] at q ⊢
    exact q.imp id (qt_E h e)
termination_by e => sizeOf e
theorem qt_C {fz fz2 : Nat → Bool} (h : ∀ i, fz i = true → fz2 i = true) : ∀ e : C, e.qt fz = true → e.qt fz2 = true
  | .val e, q => by
    unfold C.qt at q ⊢
    simp only [Bool.or_eq_true] at q ⊢
    exact q.imp id (qt_E h e)
  | .not c, q => qt_C h c q
  | .and a b, q => by
    unfold C.qt at q ⊢
    simp only [Bool.and_eq_true] at q ⊢
    exact ⟨qt_C h a q.1, qt_C h b q.2⟩
  | .or a b, q => by
    unfold C.qt at q ⊢
    simp only [Bool.and_eq_true] at q ⊢
    exact ⟨qt_C h a q.1, qt_C h b q.2⟩
termination_by e => sizeOf e
theorem qt_Cs {fz fz2 : Nat → Bool} (h : ∀ i, fz i = true → fz2 i = true) : ∀ e : Cs, e.qt fz = true → e.qt fz2 = true
  | .nil, _ => rfl
  | .cons e es, q => by
    unfold Cs.qt at q ⊢
    simp only [Bool.and_eq_true] at q ⊢
    exact ⟨qt_C h e q.1, qt_Cs h es q.2⟩
termination_by e => sizeOf e
theorem qt_I {fz fz2 : Nat → Bool} (h : ∀ i, fz i = true → fz2 i = true) : ∀ e : I, e.qt fz = true → e.qt fz2 = true
  | .seq e, q => qt_E h e q
  | .range1 e, q => qt_E h e q
  | .range2 a b, q => by
    unfold I.qt at q ⊢
    simp only [Bool.and_eq_true] at q ⊢
    exact ⟨qt_E h a q.1, qt_E h b q.2⟩
  | .enum e, q => qt_E h e q
  | .zip a b, q => by
    unfold I.qt at q ⊢
    simp only [Bool.and_eq_true] at q ⊢
    exact ⟨qt_E h a q.1, qt_E h b q.2⟩
  | .range3 a b c, q => by
    unfold I.qt at q ⊢
    simp only [Bool.and_eq_true] at q ⊢
    exact ⟨⟨qt_E h a q.1.1, qt_E h b q.1.2⟩, qt_E h c q.2⟩
  | .zip3 a b c, q => by
    unfold I.qt at q ⊢
    simp only [Bool.and_eq_true] at q ⊢
    exact ⟨⟨qt_E h a q.1.1, qt_E h b q.1.2⟩, qt_E h c q.2⟩
termination_by e => sizeOf e
end
end Mk
set_option maxHeartbeats 4000000
/-! Mk: all defs of a text at once, so many calls deep. -/
namespace Mk
open PySem PySem.Spec PyProof.Rows L2
abbrev Defs := List (Str × Df)
def stepT (D : Defs) (cs : Cons) (fns : Tab) : Tab := fun f => (D.lookup f).map fun d => d.fn cs fns
def tabN (D : Defs) (cs : Cons) : Nat → Tab
  | 0 => Tab.none
  | n + 1 => stepT D cs (tabN D cs n)
section
variable {P : Program} {w : World} {K : PySem.W.Frag} {mg : Str → Option Value} {base : Heap} {Cl : Nat → Option ClsI} {Z : Zs} {cs : Cons} {fns : Tab} {k : Nat} {D : Defs}
/-- what is known of one entry: a def, or a method -/
def TOk (K : PySem.W.Frag) (mg : Str → Option Value) (cs : Cons) (Z : Zs) (f : Str) (d : Df) : Prop :=
  (Z.mt f = none ∧ ∃ I N st, Z.fn f = some I ∧ DOk K mg Z I N st d) ∨ (Z.fn f = none ∧ ∃ I N st, Z.mt f = some I ∧ DOkM K cs Z I N st d)
def ClOk (K : PySem.W.Frag) (mg : Str → Option Value) (cs : Cons) (Z : Zs) : Prop :=
  ∀ (cn : Str) (I : ClI) (ci : ClsI), Z.cl cn = some I → cs cn = some (.cl ci) → ci.fs = I.fs ∧ Cls K ci.C ∧ (∀ f ∈ ci.fs, NoAttr K ci.C f) ∧ ci.fs.Nodup ∧ ci.fs.length < 900 ∧ mg cn = some (.ref ci.C)
theorem GOk.all (g : GOk P w K mg base Cl Z cs fns k) (h : ∀ f d, D.lookup f = some d → TOk K mg cs Z f d) : GOk P w K mg base Cl Z cs (stepT D cs fns) (k + 2) := by
  refine ⟨g.bl, g.cls, fun j J F' ci h1 h2 h3 => ?_, g.cs, fun j J F' h1 h2 => ?_⟩
  · unfold stepT at h2
    cases q : D.lookup j with
    | none => rw [q] at h2; cases h2
    | some d =>
      rw [q] at h2; cases h2
      rcases h j d q with ⟨z, _⟩ | ⟨_, I, N, st, e, dk⟩
      · rw [h1] at z; cases z
      · rw [h1] at e; cases e
        obtain ⟨f, fd, qual, a1, a2, a3, a4⟩ := dk.ex ci h3
        exact ⟨f, fd, a1, a2, a4, dk.mu, def_ok g a3 dk.S dk.n dk.body⟩
  · unfold stepT at h2
    cases q : D.lookup j with
    | none => rw [q] at h2; cases h2
    | some d =>
      rw [q] at h2; cases h2
      rcases h j d q with ⟨_, I, N, st, e, dk⟩ | ⟨z, _⟩
      · rw [h1] at e; cases e
        obtain ⟨f, fd, a1, a2, a3, a4, a5⟩ := dk.ex
        exact ⟨f, fd, a1, a2, a4, dk.mu, a5, def_ok g a3 dk.S dk.n dk.body⟩
      · rw [h1] at z; cases z
theorem GOk.tab (bl : ∀ x ∈ Z.bl, mg x = none) (hc : ∀ (x : Str) (t : T), Z.consts.contains x = true → cs x = some t → ∃ u v, mg x = some u ∧ RelV v u ∧ RepT K (fun _ => none) t v)
    (hcl : ClOk K mg cs Z) (h : ∀ f d, D.lookup f = some d → TOk K mg cs Z f d) : ∀ n, GOk P w K mg base Cl Z cs (tabN D cs n) (2 * n)
  | 0 => ⟨bl, hcl, fun j I F ci _ h2 => (by cases h2), hc, fun j I F _ h2 => by cases h2⟩
  | n + 1 => (GOk.tab bl hc hcl h n).all h
end
/-- a def with a promise -/
def Has (f : Str) (P : Fn → Prop) (t : Tab) : Prop := ∃ F, t f = some F ∧ P F
/-! the run of a def, seen from its callers -/
section
variable {D : Defs} {cs : Cons} {fns : Tab}
theorem val_step {f : Str} {d : Df} {ts : List T} (hd : D.lookup f = some d) (hm : d.mu = List.replicate ts.length false) : valOf (stepT D cs fns) f ts = (run (d.gc cs fns) d (ts.map mt)).map (·.1) := by
  unfold valOf stepT
  rw [hd]
  show (if d.mu = List.replicate ts.length false then _ else none) = _
  rw [if_pos hm]
  rfl
/-- what a property of the callees brings for the callers, so many calls deep -/
theorem deep {P Q : Tab → Prop} {a : Nat} (hp : ∀ n, a ≤ n → P (tabN D cs n)) (h : ∀ fns, P fns → Q (stepT D cs fns)) : ∀ n, a + 1 ≤ n → Q (tabN D cs n)
  | 0, hn => by omega
  | n + 1, hn => h _ (hp n (by omega))
theorem base {Q : Tab → Prop} (h : ∀ fns, Q (stepT D cs fns)) : ∀ n, 1 ≤ n → Q (tabN D cs n) := deep (a := 0) (P := fun _ => True) (fun _ _ => trivial) fun fns _ => h fns
theorem val_sem1 {f : Str} {d : Df} {ts : List T} {m : M} (hd : D.lookup f = some d) (h : valOf (stepT D cs fns) f ts = some m) : ∃ ms', (d.fn cs fns).sem (ts.map mt) = some (m, ms') :=
  val_sem (fn := d.fn cs fns) (by unfold stepT; rw [hd]; rfl) h
theorem lookup_mem {f : Str} {d : Df} : ∀ {D : Defs}, D.lookup f = some d → (f, d) ∈ D
  | [], h => by cases h
  | (g, e) :: D, h => by
    rw [List.lookup_cons] at h
    split at h
    · rename_i q
      cases h
      rw [beq_iff_eq.mp q]
      exact List.mem_cons_self
    · exact List.mem_cons_of_mem _ (lookup_mem h)
end
end Mk
set_option maxHeartbeats 4000000
/-! Mk: comprehensions as functions; lists or tuples; ranges. -/
namespace Mk
open PySem L2
def fzOf (ρ : Slots) : Nat → Bool := fun i => match ρ[i]? with
  | some m => fzM m
  | none => true
theorem fzOf_ok (ρ : Slots) : FzOk (fzOf ρ) ρ := fun i m h e => by
  unfold fzOf at h
  rw [e] at h
  exact h
def qtC (fz : Nat → Bool) (own : List Nat) (tg : Tg) (cs : Cs) (elt : E) : Bool := tg.slots.all own.contains && cs.qt (fun i => own.contains i || fz i) && elt.qt (fun i => own.contains i || fz i)
def turnV (G : Gc) (own : List Nat) (tg : Tg) (cs : Cs) (elt : E) (ρ : Slots) (x : T) : Option (Option T) :=
  obd (tg.store G.pin x (wipeS own ρ)) fun ρ1 => bnd (evCs G cs ρ1) fun k _ => if k = true then bnd (f1 (ev G elt ρ1)) fun t _ => some (some t) else some none
theorem turn_q {G : Gc} {own : List Nat} {tg : Tg} {cs : Cs} {elt : E} {ρ : Slots} (hq : qtC (fzOf ρ) own tg cs elt = true) (x : T) :
    (turnF G tg cs elt x (wipeS own ρ)).map (·.1) = turnV G own tg cs elt ρ x ∧ ∀ y ρ', turnF G tg cs elt x (wipeS own ρ) = some (y, ρ') → wipeS own ρ' = wipeS own ρ := by
  unfold qtC at hq
  simp only [Bool.and_eq_true] at hq
  obtain ⟨⟨q2, q3⟩, q4⟩ := hq
  unfold turnV turnF
  cases e3 : tg.store G.pin x (wipeS own ρ) with
  | none => exact ⟨rfl, fun y ρ' e => by cases e⟩
  | some ρ3 =>
    have z3 := store_fz e3 (wipe_fz (own := own) (fzOf_ok ρ))
    have w3 := (store_out e3 q2).trans wipeS_idem
    rw [obd_ok, obd_ok]
    cases e4 : evCs G cs ρ3 with
    | none => exact ⟨rfl, fun y ρ' e => by cases e⟩
    | some p =>
      obtain ⟨k, ρ4⟩ := p
      have r4 := evCs_q cs z3 q3 e4
      subst r4
      rw [bnd_ok, bnd_ok]
      cases k with
      | false => exact ⟨rfl, fun y ρ' e => by cases e; exact w3⟩
      | true =>
        rw [if_pos rfl, if_pos rfl]
        cases e5 : f1 (ev G elt ρ4) with
        | none => exact ⟨rfl, fun y ρ' e => by cases e⟩
        | some p =>
          refine ⟨rfl, fun y ρ' e => ?_⟩
          cases e
          have r5 := f1_qt (fun z => ev_q elt z3 q4 z) (e5.trans rfl : _ = some (p.1, p.2))
          rw [r5]
          exact w3
theorem ev_compq {G : Gc} {own : List Nat} {tg : Tg} {it : I} {cs : Cs} {elt : E} {ρ : Slots} : ev G (.comp own tg it cs elt) ρ = bnd (evI G it ρ) fun xs ρ0 =>
    if qtC (fzOf ρ0) own tg cs elt = true then obd (filterO (turnV G own tg cs elt ρ0) xs) fun ys => some (.bx (.ls ys), ρ0)
    else bnd (compL own (turnF G tg cs elt) xs ρ0) fun ys ρ1 => some (.bx (.ls ys), backS own ρ0 ρ1) := by
  rw [ev_comp]
  cases e1 : evI G it ρ with
  | none => rfl
  | some p =>
    obtain ⟨xs, ρ0⟩ := p
    rw [bnd_ok, bnd_ok]
    split
    · rename_i hq
      obtain ⟨i1, i2⟩ := compL_q (own := own) (f := turnF G tg cs elt) (ρ0 := ρ0) (fun x y ρ' e => (turn_q hq x).2 y ρ' e) (xs := xs) rfl
      have ef : (fun x => (turnF G tg cs elt x (wipeS own ρ0)).map (·.1)) = turnV G own tg cs elt ρ0 := funext fun x => (turn_q hq x).1
      rw [ef] at i1
      show bnd (compL own (turnF G tg cs elt) xs ρ0) _ = _
      cases e2 : compL own (turnF G tg cs elt) xs ρ0 with
      | none => rw [e2] at i1; rw [← i1]; rfl
      | some p =>
        rw [e2] at i1
        rw [← i1]
        show some (_, backS own ρ0 p.2) = some (_, ρ0)
        rw [back_same (i2 _ _ (e2.trans rfl : _ = some (p.1, p.2)))]
    · rfl
def qtC2 (fz : Nat → Bool) (own own2 : List Nat) (tg : Tg) (cs : Cs) (tg2 : Tg) (it2 : I) (cs2 : Cs) (elt : E) : Bool := tg.slots.all own.contains && own2.all own.contains && tg2.slots.all own2.contains && cs.qt (fun i => own.contains i || fz i) &&
  it2.qt (fun i => own.contains i || fz i) && cs2.qt (fun i => own.contains i || fz i) && elt.qt (fun i => own.contains i || fz i)
def turn2V (G : Gc) (own own2 : List Nat) (tg : Tg) (cs : Cs) (tg2 : Tg) (it2 : I) (cs2 : Cs) (elt : E) (ρ : Slots) (x : T) : Option (List T) :=
  obd (tg.store G.pin x (wipeS own ρ)) fun ρ1 => bnd (evCs G cs ρ1) fun k _ => if k = true then bnd (evI G it2 ρ1) fun zs _ => filterO (turnV G own2 tg2 cs2 elt ρ1) zs else some []
theorem turn2_q {G : Gc} {own own2 : List Nat} {tg : Tg} {cs : Cs} {tg2 : Tg} {it2 : I} {cs2 : Cs} {elt : E} {ρ : Slots} (hq : qtC2 (fzOf ρ) own own2 tg cs tg2 it2 cs2 elt = true) (x : T) :
    (turn2F G own2 tg cs tg2 it2 cs2 elt x (wipeS own ρ)).map (·.1) = turn2V G own own2 tg cs tg2 it2 cs2 elt ρ x ∧ ∀ y ρ', turn2F G own2 tg cs tg2 it2 cs2 elt x (wipeS own ρ) = some (y, ρ') → wipeS own ρ' = wipeS own ρ := by
  unfold qtC2 at hq
  simp only [Bool.and_eq_true] at hq
  obtain ⟨⟨⟨⟨⟨⟨q2, q3⟩, q4⟩, q5⟩, q6⟩, q7⟩, q8⟩ := hq
  unfold turn2V turn2F
  cases e3 : tg.store G.pin x (wipeS own ρ) with
  | none => exact ⟨rfl, fun y ρ' e => by cases e⟩
  | some ρ3 =>
    have z3 := store_fz e3 (wipe_fz (own := own) (fzOf_ok ρ))
    have w3 := (store_out e3 q2).trans wipeS_idem
    rw [obd_ok, obd_ok]
    cases e4 : evCs G cs ρ3 with
    | none => exact ⟨rfl, fun y ρ' e => by cases e⟩
    | some p =>
      obtain ⟨k, ρ4⟩ := p
      have r4 := evCs_q cs z3 q5 e4
      subst r4
      rw [bnd_ok, bnd_ok]
      cases k with
      | false => exact ⟨rfl, fun y ρ' e => by cases e; exact w3⟩
      | true =>
        rw [if_pos rfl, if_pos rfl]
        cases e5 : evI G it2 ρ4 with
        | none => exact ⟨rfl, fun y ρ' e => by cases e⟩
        | some p =>
          obtain ⟨zs, ρ5⟩ := p
          have r5 := evI_q it2 z3 q6 e5
          subst r5
          rw [bnd_ok, bnd_ok]
          have hq2 : qtC (fzOf ρ5) own2 tg2 cs2 elt = true := by
            unfold qtC
            simp only [Bool.and_eq_true]
            have mono : ∀ i, (own.contains i || fzOf ρ i) = true → (own2.contains i || fzOf ρ5 i) = true := fun i hi => by
              rw [Bool.or_eq_true]
              right
              unfold fzOf
              cases q : ρ5[i]? with
              | none => rfl
              | some m => exact z3 i m hi q
            exact ⟨⟨q4, qt_Cs mono cs2 q7⟩, qt_E mono elt q8⟩
          obtain ⟨i1, i2⟩ := compL_q (own := own2) (f := turnF G tg2 cs2 elt) (ρ0 := ρ5) (fun x y ρ' e => (turn_q hq2 x).2 y ρ' e) (xs := zs) rfl
          have ef : (fun x => (turnF G tg2 cs2 elt x (wipeS own2 ρ5)).map (·.1)) = turnV G own2 tg2 cs2 elt ρ5 := funext fun x => (turn_q hq2 x).1
          rw [ef] at i1
          refine ⟨i1, fun y ρ' e => ?_⟩
          have r6 := i2 y ρ' e
          have sub : ∀ i ∈ own2, i ∈ own := fun i hi => List.contains_iff_mem.mp (List.all_eq_true.mp q3 i hi)
          have := congrArg (wipeS own) r6
          rw [wipeS_sub sub, wipeS_sub sub] at this
          exact this.trans w3
theorem ev_comp2q {G : Gc} {own own2 : List Nat} {tg : Tg} {it : I} {cs : Cs} {tg2 : Tg} {it2 : I} {cs2 : Cs} {elt : E} {ρ : Slots} : ev G (.comp2 own own2 tg it cs tg2 it2 cs2 elt) ρ = bnd (evI G it ρ) fun xs ρ0 =>
    if qtC2 (fzOf ρ0) own own2 tg cs tg2 it2 cs2 elt = true then obd (mapO (turn2V G own own2 tg cs tg2 it2 cs2 elt ρ0) xs) fun ys => if ys.flatten.length ≤ sizeLine then some (.bx (.ls ys.flatten), ρ0) else none
    else bnd (compLL own (turn2F G own2 tg cs tg2 it2 cs2 elt) xs ρ0) fun ys ρ1 => if ys.length ≤ sizeLine then some (.bx (.ls ys), backS own ρ0 ρ1) else none := by
  rw [ev_comp2]
  cases e1 : evI G it ρ with
  | none => rfl
  | some p =>
    obtain ⟨xs, ρ0⟩ := p
    rw [bnd_ok, bnd_ok]
    split
    · rename_i hq
      obtain ⟨i1, i2⟩ := compLL_q (own := own) (f := turn2F G own2 tg cs tg2 it2 cs2 elt) (ρ0 := ρ0) (fun x y ρ' e => (turn2_q hq x).2 y ρ' e) (xs := xs) rfl
      have ef : (fun x => (turn2F G own2 tg cs tg2 it2 cs2 elt x (wipeS own ρ0)).map (·.1)) = turn2V G own own2 tg cs tg2 it2 cs2 elt ρ0 := funext fun x => (turn2_q hq x).1
      rw [ef] at i1
      show bnd (compLL own (turn2F G own2 tg cs tg2 it2 cs2 elt) xs ρ0) _ = _
      cases e2 : compLL own (turn2F G own2 tg cs tg2 it2 cs2 elt) xs ρ0 with
      | none =>
        rw [e2] at i1
        cases e3 : mapO (turn2V G own own2 tg cs tg2 it2 cs2 elt ρ0) xs with
        | none => rfl
        | some z => rw [e3] at i1; cases i1
      | some p =>
        rw [e2] at i1
        cases e3 : mapO (turn2V G own own2 tg cs tg2 it2 cs2 elt ρ0) xs with
        | none => rw [e3] at i1; cases i1
        | some z =>
          rw [e3] at i1
          have i1 : p.1 = z.flatten := Option.some.inj i1
          show (if p.1.length ≤ sizeLine then some (M.bx (B.ls p.1), backS own ρ0 p.2) else none) = if z.flatten.length ≤ sizeLine then some (M.bx (B.ls z.flatten), ρ0) else none
          rw [back_same (i2 _ _ (e2.trans rfl : _ = some (p.1, p.2))), i1]
    · rfl
/-- a list's length is small -/
def szO {α : Type} (n : Nat) (x : Option α) : Option α := if n ≤ sizeLine then x else none
theorem szO_ok {α : Type} {n : Nat} {x : Option α} (h : n ≤ 1000000) : szO n x = x := if_pos (Nat.le_trans h (by decide))
theorem szO_def {α : Type} (n : Nat) (x : Option α) : (if n ≤ sizeLine then x else none) = szO n x := id rfl
@[simp] theorem es_len_n : Es.nil.len = 0 := id rfl
@[simp] theorem es_len_c (e : E) (es : Es) : (Es.cons e es).len = es.len + 1 := id rfl
theorem evf_sz {G : Gc} {es : Es} {ρ : Slots} {β : Type} (g : List T → Slots → β) (h : es.len ≤ 1000000) : (bnd (evf G es ρ) fun ts ρ => if ts.length ≤ sizeLine then some (g ts ρ) else none) = bnd (evf G es ρ) fun ts ρ => some (g ts ρ) := by
  cases q : evf G es ρ with
  | none => rfl
  | some p =>
    have := evf_len (q.trans rfl : _ = some (p.1, p.2))
    exact if_pos (Nat.le_trans (by rw [this]; exact h) (by decide))
@[simp] theorem ev_tup_ok {G : Gc} {es : Es} {ρ : Slots} (h : es.len ≤ 1000000) : ev G (.tup es) ρ = bnd (evf G es ρ) fun ts ρ => some (mt (.tup ts), ρ) := by
  rw [ev_tup]
  exact evf_sz (fun ts ρ => (mt (.tup ts), ρ)) h
@[simp] theorem ev_lst_ok {G : Gc} {es : Es} {ρ : Slots} (h : es.len ≤ 1000000) : ev G (.lst es) ρ = bnd (evf G es ρ) fun ts ρ => some (.bx (.ls ts), ρ) := by
  rw [ev_lst]
  exact evf_sz (fun ts ρ => ((.bx (.ls ts) : M), ρ)) h
@[simp] theorem ev_lst_nil {G : Gc} {ρ : Slots} : ev G (.lst .nil) ρ = some (.bx (.ls []), ρ) := ev_lst_ok (Nat.zero_le _)
@[simp] theorem ev_tup_nil {G : Gc} {ρ : Slots} : ev G (.tup .nil) ρ = some (mt (.tup []), ρ) := ev_tup_ok (Nat.zero_le _)
theorem ev_comp2z {G : Gc} {own own2 : List Nat} {tg : Tg} {it : I} {cs : Cs} {tg2 : Tg} {it2 : I} {cs2 : Cs} {elt : E} {ρ : Slots} : ev G (.comp2 own own2 tg it cs tg2 it2 cs2 elt) ρ = bnd (evI G it ρ) fun xs ρ0 =>
    if qtC2 (fzOf ρ0) own own2 tg cs tg2 it2 cs2 elt = true then obd (mapO (turn2V G own own2 tg cs tg2 it2 cs2 elt ρ0) xs) fun ys => szO ys.flatten.length (some (.bx (.ls ys.flatten), ρ0))
    else bnd (compLL own (turn2F G own2 tg cs tg2 it2 cs2 elt) xs ρ0) fun ys ρ1 => szO ys.length (some (.bx (.ls ys), backS own ρ0 ρ1)) := ev_comp2q
theorem ps_addz (a b : List T) : primSem .add [.lst a, .lst b] = szO (a.length + b.length) (some (.bx (.ls (a ++ b)))) := id rfl
theorem ps_addzt (a b : List T) : primSem .add [.tup a, .tup b] = szO (a.length + b.length) (some (mt (.tup (a ++ b)))) := id rfl
/-! the values -/
section
variable {α β γ : Type}
@[simp] theorem filterO_nil (f : α → Option (Option β)) : filterO f [] = some [] := id rfl
@[simp] theorem filterO_cons (f : α → Option (Option β)) (x : α) (xs : List α) : filterO f (x :: xs) = obd (f x) fun y => obd (filterO f xs) fun ys => some (match y with | some y => y :: ys | none => ys) := id rfl
@[simp] theorem mapO_nil (f : α → Option β) : mapO f [] = some [] := id rfl
@[simp] theorem mapO_cons (f : α → Option β) (x : α) (xs : List α) : mapO f (x :: xs) = obd (f x) fun y => obd (mapO f xs) fun ys => some (y :: ys) := id rfl
@[simp] theorem filterO_map (f : β → Option (Option γ)) (g : α → β) : ∀ xs : List α, filterO f (xs.map g) = filterO (fun a => f (g a)) xs
  | [] => rfl
  | x :: xs => by rw [List.map_cons, filterO_cons, filterO_cons, filterO_map f g xs]
@[simp] theorem mapO_map (f : β → Option γ) (g : α → β) : ∀ xs : List α, mapO f (xs.map g) = mapO (fun a => f (g a)) xs
  | [] => rfl
  | x :: xs => by rw [List.map_cons, mapO_cons, mapO_cons, mapO_map f g xs]
theorem filterO_ok {f : α → Option (Option β)} (g : α → Option β) : ∀ {xs : List α}, (∀ a ∈ xs, f a = some (g a)) → filterO f xs = some (xs.filterMap g)
  | [], _ => rfl
  | x :: xs, h => by
    rw [filterO_cons, h x List.mem_cons_self, obd_ok, filterO_ok g fun a ha => h a (List.mem_cons_of_mem _ ha), obd_ok]
    cases q : g x with
    | none => rw [List.filterMap_cons_none q]
    | some y => rw [List.filterMap_cons_some q]
theorem filterO_map_ok {f : α → Option (Option β)} (g : α → β) : ∀ {xs : List α}, (∀ a ∈ xs, f a = some (some (g a))) → filterO f xs = some (xs.map g)
  | [], _ => rfl
  | x :: xs, h => by
    rw [filterO_cons, h x List.mem_cons_self, obd_ok, filterO_map_ok g fun a ha => h a (List.mem_cons_of_mem _ ha), obd_ok]
    rfl
theorem filterO_if_ok {f : α → Option (Option β)} (p : α → Bool) (g : α → β) : ∀ {xs : List α}, (∀ a ∈ xs, f a = some (if p a then some (g a) else none)) → filterO f xs = some ((xs.filter p).map g)
  | [], _ => rfl
  | x :: xs, h => by
    rw [filterO_cons, h x List.mem_cons_self, obd_ok, filterO_if_ok p g fun a ha => h a (List.mem_cons_of_mem _ ha), obd_ok, List.filter_cons]
    cases p x <;> rfl
@[simp] theorem filterO_some (g : α → β) (xs : List α) : filterO (fun a => some (some (g a))) xs = some (xs.map g) := filterO_map_ok g fun _ _ => rfl
@[simp] theorem filterO_ite (p : α → Prop) [DecidablePred p] (g : α → β) (xs : List α) : filterO (fun a => if p a then some (some (g a)) else some none) xs = some ((xs.filter fun a => decide (p a)).map g) :=
  filterO_if_ok (fun a => decide (p a)) g fun a _ => by by_cases h : p a <;> simp [h]
theorem mapO_ok {f : α → Option β} (g : α → β) : ∀ {xs : List α}, (∀ a ∈ xs, f a = some (g a)) → mapO f xs = some (xs.map g)
  | [], _ => rfl
  | x :: xs, h => by
    rw [mapO_cons, h x List.mem_cons_self, obd_ok, mapO_ok g fun a ha => h a (List.mem_cons_of_mem _ ha), obd_ok]
    rfl
@[simp] theorem mapO_some (g : α → β) (xs : List α) : mapO (fun a => some (g a)) xs = some (xs.map g) := mapO_ok g fun _ _ => rfl
end
/-! a list or a tuple -/
def T.sq (b : Bool) (xs : List T) : T := if b = true then .lst xs else .tup xs
@[simp] theorem sq_t (xs : List T) : T.sq true xs = .lst xs := id rfl
@[simp] theorem sq_f (xs : List T) : T.sq false xs = .tup xs := id rfl
section
variable (b : Bool) (xs ys : List T)
@[simp] theorem ps_idxs (i : Int) : primSem .idx [.sq b xs, .int i] = (atI xs i).map mt := by cases b <;> rfl
@[simp] theorem ps_lens : primSem .len [.sq b xs] = some (mt (.int xs.length)) := by cases b <;> rfl
@[simp] theorem seq_sq : seqOf (.sq b xs) = some xs := by cases b <;> rfl
@[simp] theorem seq_l : seqOf (.lst xs) = some xs := id rfl
@[simp] theorem seq_t : seqOf (.tup xs) = some xs := id rfl
@[simp] theorem seq_r (ns : List Int) : seqOf (.rd ns) = some (ns.map .int) := id rfl
@[simp] theorem tru_sq : tru (.sq b xs) = some (!xs.isEmpty) := by cases b <;> rfl
@[simp] theorem isN_sq : (T.sq b xs).isN = false := by cases b <;> rfl
@[simp] theorem ps_tups : primSem .tuple [.sq b xs] = some (mt (.tup xs)) := by cases b <;> rfl
@[simp] theorem ps_lsts : primSem .list [.sq b xs] = some (.bx (.ls xs)) := by cases b <;> rfl
@[simp] theorem isS_t (xs : List T) : (T.tup xs).isS = false := id rfl
@[simp] theorem isS_l (xs : List T) : (T.lst xs).isS = false := id rfl
@[simp] theorem isS_r (xs : List Int) : (T.rd xs).isS = false := id rfl
@[simp] theorem isS_sq : (T.sq b xs).isS = false := by cases b <;> rfl
@[simp] theorem zip_def (s t : T) : zipOf s t = if (s.isS || t.isS) = true then none else obd (seqOf s) fun xs => obd (seqOf t) fun ys => some (zipT xs ys) := id rfl
@[simp] theorem enum_def (t : T) : enumOf t = if t.isS = true then none else obd (seqOf t) fun xs => some (enumT 0 xs) := id rfl
@[simp] theorem ty_sq : tyOf (.sq b xs) = some (if b = true then .list else .tuple) := by cases b <;> rfl
@[simp] theorem st_s2 (pin : List Nat) (p q : Tg) (x y : T) (ρ : Slots) : (Tg.t2 p q).store pin (.sq b [x, y]) ρ = obd (p.store pin x ρ) fun ρ => q.store pin y ρ := by cases b <;> rfl
@[simp] theorem st_s3 (pin : List Nat) (p q r : Tg) (x y z : T) (ρ : Slots) : (Tg.t3 p q r).store pin (.sq b [x, y, z]) ρ = obd (p.store pin x ρ) fun ρ => obd (q.store pin y ρ) fun ρ => r.store pin z ρ := by cases b <;> rfl
@[simp] theorem st_s4 (pin : List Nat) (p q r s : Tg) (x y z w : T) (ρ : Slots) : (Tg.t4 p q r s).store pin (.sq b [x, y, z, w]) ρ = obd (p.store pin x ρ) fun ρ => obd (q.store pin y ρ) fun ρ => obd (r.store pin z ρ) fun ρ => s.store pin w ρ := by cases b <;> rfl
@[simp] theorem sl_lst (lo hi : Option Int) : pSlice (.lst xs) lo hi = some (.bx (.ls (cutT xs lo hi))) := id rfl
@[simp] theorem sl_tup (lo hi : Option Int) : pSlice (.tup xs) lo hi = some (mt (.tup (cutT xs lo hi))) := id rfl
theorem sl_sq (lo hi : Option Int) : ∃ m, pSlice (.sq b xs) lo hi = some m ∧ m.frz = some (.sq b (cutT xs lo hi)) := by cases b <;> exact ⟨_, rfl, rfl⟩
end
theorem zipT_zip {α β : Type} (f : α → T) (g : β → T) : ∀ (xs : List α) (ys : List β), zipT (xs.map f) (ys.map g) = (xs.zip ys).map fun p => .tup [f p.1, g p.2]
  | [], _ => by simp [zipT]
  | _ :: _, [] => by simp [zipT]
  | x :: xs, y :: ys => by simp [zipT, zipT_zip f g xs ys]
theorem rangeT_of {lo hi : Int} (h0 : -1000000 ≤ lo) (h1 : hi ≤ 1000000) (h2 : lo ≤ 1000000) (h3 : -1000000 ≤ hi) : rangeT lo hi = some ((List.range (hi - lo).toNat).map fun (i : Nat) => T.int (lo + (i : Int))) := by
  unfold rangeT
  have hs : 2000000 < sizeLine := by decide
  rw [if_pos ⟨by omega, by omega, by omega, by omega, by omega⟩]
theorem rangeT_nat {n : Nat} (h : n ≤ 1000000) : rangeT 0 (n : Int) = some ((List.range n).map fun (i : Nat) => T.int (i : Int)) := by
  rw [rangeT_of (by omega) (by omega) (by omega) (by omega)]
  simp
theorem rangeT_nat2 {m n : Nat} (h : n ≤ 1000000) (hm : m ≤ 1000000) : rangeT (m : Int) (n : Int) = some ((List.range (n - m)).map fun (i : Nat) => T.int ((m + i : Nat) : Int)) := by
  rw [rangeT_of (by omega) (by omega) (by omega) (by omega)]
  rw [show ((n : Int) - (m : Int)).toNat = n - m by omega]
  simp
/-! quiet: by simp -/
section
variable (fz : Nat → Bool)
@[simp] theorem q_k (t : T) : (E.k t).qt fz = true := id rfl
@[simp] theorem q_g (t : Str) : (E.g t).qt fz = true := id rfl
@[simp] theorem q_var (i : Nat) : (E.var i).qt fz = fz i := id rfl
@[simp] theorem q_op (p : Prim) (es : Es) : (E.op p es).qt fz = es.qv fz := id rfl
@[simp] theorem q_sl (x : E) (lo hi : Op) : (E.sl x lo hi).qt fz = ((x.isVar || x.qt fz) && lo.qt fz && hi.qt fz) := id rfl
@[simp] theorem q_tup (es : Es) : (E.tup es).qt fz = es.qt fz := id rfl
@[simp] theorem q_lst (es : Es) : (E.lst es).qt fz = es.qt fz := id rfl
@[simp] theorem q_ite (c : C) (a b : E) : (E.ite c a b).qt fz = (c.qt fz && a.qt fz && b.qt fz) := id rfl
@[simp] theorem q_and (a b : E) : (E.and a b).qt fz = (a.qt fz && b.qt fz) := id rfl
@[simp] theorem q_or (a b : E) : (E.or a b).qt fz = (a.qt fz && b.qt fz) := id rfl
@[simp] theorem q_not (a : E) : (E.not a).qt fz = (a.isVar || a.qt fz) := id rfl
@[simp] theorem q_chain (p q : Prim) (a b c : E) : (E.chain p q a b c).qt fz = (a.qt fz && b.qt fz && c.qt fz) := id rfl
@[simp] theorem q_isi (a : E) (cs : List Ty) (m : Bool) : (E.isi a cs m).qt fz = (a.isVar || a.qt fz) := id rfl
@[simp] theorem q_call (j : Str) (es : Es) : (E.call j es).qt fz = false := id rfl
@[simp] theorem q_callk (j : Str) (es : Es) (p : List Nat) : (E.callk j es p).qt fz = es.qt fz := id rfl
@[simp] theorem q_callp (j : Str) (es : Es) : (E.callp j es).qt fz = es.qt fz := id rfl
@[simp] theorem q_comp (own : List Nat) (tg : Tg) (it : I) (cs : Cs) (elt : E) : (E.comp own tg it cs elt).qt fz = (it.qt fz && tg.slots.all own.contains && cs.qt (fun i => own.contains i || fz i) && elt.qt (fun i => own.contains i || fz i)) := id rfl
@[simp] theorem q_comp2 (own own2 : List Nat) (tg : Tg) (it : I) (cs : Cs) (tg2 : Tg) (it2 : I) (cs2 : Cs) (elt : E) : (E.comp2 own own2 tg it cs tg2 it2 cs2 elt).qt fz = (it.qt fz && tg.slots.all own.contains && own2.all own.contains && tg2.slots.all own2.contains && cs.qt (fun i => own.contains i || fz i) && it2.qt (fun i => own.contains i || fz i) &&
      cs2.qt (fun i => own.contains i || fz i) && elt.qt (fun i => own.contains i || fz i)) := id rfl
@[simp] theorem q_pop0 (i : Nat) : (E.pop0 i).qt fz = false := id rfl
@[simp] theorem q_pop (i : Nat) (a : E) : (E.pop i a).qt fz = false := id rfl
@[simp] theorem q_rgl (t : Bool) (a : E) : (E.rgl t a).qt fz = a.qt fz := id rfl
@[simp] theorem q_fld (i : Nat) (cn : Str) (f : Nat) : (E.fld i cn f).qt fz = true := id rfl
@[simp] theorem q_fidx (i : Nat) (cn : Str) (f : Nat) (e : E) : (E.fidx i cn f e).qt fz = (e.isVar || e.qt fz) := id rfl
@[simp] theorem q_flen (i : Nat) (cn : Str) (f : Nat) : (E.flen i cn f).qt fz = true := id rfl
@[simp] theorem q_new (j cn : Str) (n : Nat) (es : Es) : (E.new j cn n es).qt fz = es.qt fz := id rfl
@[simp] theorem q_meth (j cn : Str) (es : Es) : (E.meth j cn es).qt fz = false := id rfl
@[simp] theorem q_methp (j cn : Str) (es : Es) : (E.methp j cn es).qt fz = es.qt fz := id rfl
@[simp] theorem q_bor (e : E) : (E.bor e).qt fz = true := id rfl
@[simp] theorem q_call0 (j : Str) : (E.call0 j).qt fz = true := id rfl
@[simp] theorem q_rgl2 (t : Bool) (a b : E) : (E.rgl2 t a b).qt fz = (a.qt fz && b.qt fz) := id rfl
@[simp] theorem qv_n : Es.nil.qv fz = true := id rfl
@[simp] theorem qv_c (e : E) (es : Es) : (Es.cons e es).qv fz = ((e.isVar || e.qt fz) && es.qv fz) := id rfl
@[simp] theorem qf_n : Es.nil.qt fz = true := id rfl
@[simp] theorem qf_c (e : E) (es : Es) : (Es.cons e es).qt fz = (e.qt fz && es.qt fz) := id rfl
@[simp] theorem qo_n : Op.no.qt fz = true := id rfl
@[simp] theorem qo_s (e : E) : (Op.some e).qt fz = (e.isVar || e.qt fz) := id rfl
@[simp] theorem qc_v (e : E) : (C.val e).qt fz = (e.isVar || e.qt fz) := id rfl
@[simp] theorem qc_n (c : C) : (C.not c).qt fz = c.qt fz := id rfl
@[simp] theorem qc_a (a b : C) : (C.and a b).qt fz = (a.qt fz && b.qt fz) := id rfl
@[simp] theorem qc_o (a b : C) : (C.or a b).qt fz = (a.qt fz && b.qt fz) := id rfl
@[simp] theorem qs_n : Cs.nil.qt fz = true := id rfl
@[simp] theorem qs_c (c : C) (cs : Cs) : (Cs.cons c cs).qt fz = (c.qt fz && cs.qt fz) := id rfl
@[simp] theorem qi_s (e : E) : (I.seq e).qt fz = e.qt fz := id rfl
@[simp] theorem qi_r (e : E) : (I.range1 e).qt fz = e.qt fz := id rfl
@[simp] theorem qi_r2 (a b : E) : (I.range2 a b).qt fz = (a.qt fz && b.qt fz) := id rfl
@[simp] theorem qi_e (e : E) : (I.enum e).qt fz = e.qt fz := id rfl
@[simp] theorem qi_r3 (a b c : E) : (I.range3 a b c).qt fz = (a.qt fz && b.qt fz && c.qt fz) := id rfl
@[simp] theorem qi_z3 (a b c : E) : (I.zip3 a b c).qt fz = (a.qt fz && b.qt fz && c.qt fz) := id rfl
@[simp] theorem qe_sd (e : E) : (E.sd e).qt fz = e.qt fz := id rfl
@[simp] theorem qi_z (a b : E) : (I.zip a b).qt fz = (a.qt fz && b.qt fz) := id rfl
@[simp] theorem isVar_var (i : Nat) : (E.var i).isVar = true := id rfl
@[simp] theorem fzM_none : fzM none = true := id rfl
@[simp] theorem fzM_fz (t : T) : fzM (some (mt t)) = true := id rfl
@[simp] theorem fzM_ls (ts : List T) : fzM (some (.bx (.ls ts))) = false := id rfl
@[simp] theorem slots_nm (i : Nat) : (Tg.nm i).slots = [i] := id rfl
@[simp] theorem slots_t2 (a b : Tg) : (Tg.t2 a b).slots = a.slots ++ b.slots := id rfl
@[simp] theorem slots_t4 (a b c d : Tg) : (Tg.t4 a b c d).slots = a.slots ++ b.slots ++ c.slots ++ d.slots := id rfl
@[simp] theorem slots_t3 (a b c : Tg) : (Tg.t3 a b c).slots = a.slots ++ b.slots ++ c.slots := id rfl
@[simp] theorem fzOf_def (ρ : Slots) (i : Nat) : fzOf ρ i = match ρ[i]? with
  | some m => fzM m
  | none => true := id rfl
@[simp] theorem qtC_def (own : List Nat) (tg : Tg) (cs : Cs) (elt : E) : qtC fz own tg cs elt = (tg.slots.all own.contains && cs.qt (fun i => own.contains i || fz i) && elt.qt (fun i => own.contains i || fz i)) := id rfl
@[simp] theorem qtC2_def (own own2 : List Nat) (tg : Tg) (cs : Cs) (tg2 : Tg) (it2 : I) (cs2 : Cs) (elt : E) : qtC2 fz own own2 tg cs tg2 it2 cs2 elt = (tg.slots.all own.contains && own2.all own.contains && tg2.slots.all own2.contains && cs.qt (fun i => own.contains i || fz i) &&
  it2.qt (fun i => own.contains i || fz i) && cs2.qt (fun i => own.contains i || fz i) && elt.qt (fun i => own.contains i || fz i)) := id rfl
end
theorem turnV_eq (G : Gc) (own : List Nat) (tg : Tg) (cs : Cs) (elt : E) (ρ : Slots) : turnV G own tg cs elt ρ = fun x => obd (tg.store G.pin x (wipeS own ρ)) fun ρ1 => bnd (evCs G cs ρ1) fun k _ => if k = true then bnd (f1 (ev G elt ρ1)) fun t _ => some (some t) else some none := id rfl
theorem turn2V_eq (G : Gc) (own own2 : List Nat) (tg : Tg) (cs : Cs) (tg2 : Tg) (it2 : I) (cs2 : Cs) (elt : E) (ρ : Slots) : turn2V G own own2 tg cs tg2 it2 cs2 elt ρ = fun x =>
  obd (tg.store G.pin x (wipeS own ρ)) fun ρ1 => bnd (evCs G cs ρ1) fun k _ => if k = true then bnd (evI G it2 ρ1) fun zs _ => filterO (turnV G own2 tg2 cs2 elt ρ1) zs else some [] := id rfl
/-! kinds -/
@[simp] theorem ty_non : tyOf .non = some .none := id rfl
@[simp] theorem ty_bl (b : Bool) : tyOf (.bl b) = some .bool := id rfl
@[simp] theorem ty_int (i : Int) : tyOf (.int i) = some .int := id rfl
@[simp] theorem ty_str (s : Str) : tyOf (.str s) = some .str := id rfl
@[simp] theorem ty_tup (xs : List T) : tyOf (.tup xs) = some .tuple := id rfl
@[simp] theorem ty_lst (xs : List T) : tyOf (.lst xs) = some .list := id rfl
@[simp] theorem isi_def (x : T) (cs : List Ty) : pIsi x cs = (tyOf x).bind fun t => some (mt (.bl (cs.any (t.isA ·)))) := id rfl
@[simp] theorem isN_bl (b : Bool) : T.isN (.bl b) = false := id rfl
@[simp] theorem isN_str (b : Str) : T.isN (.str b) = false := id rfl
/-! one behind the other -/
@[simp] theorem bnd_obd' {α β γ δ : Type} (x : Option α) (f : α → Option (β × γ)) (g : β → γ → Option δ) : bnd (obd x f) g = obd x fun a => bnd (f a) g := by cases x <;> rfl
@[simp] theorem bnd_bnd' {α β γ δ ε : Type} (x : Option (α × β)) (f : α → β → Option (γ × δ)) (g : γ → δ → Option ε) : bnd (bnd x f) g = bnd x fun a b => bnd (f a b) g := by cases x <;> rfl
@[simp] theorem obd_obd' {α β γ : Type} (x : Option α) (f : α → Option β) (g : β → Option γ) : obd (obd x f) g = obd x fun a => obd (f a) g := by cases x <;> rfl
@[simp] theorem f1_obd' {α : Type} (x : Option α) (f : α → Option (M × Slots)) : f1 (obd x f) = obd x fun a => f1 (f a) := by cases x <;> rfl
@[simp] theorem f1_bnd' {α β : Type} (x : Option (α × β)) (f : α → β → Option (M × Slots)) : f1 (bnd x f) = bnd x fun a b => f1 (f a b) := by cases x <;> rfl
@[simp] theorem map_obd' {α β γ : Type} (x : Option α) (f : α → Option β) (g : β → γ) : (obd x f).map g = obd x fun a => (f a).map g := by cases x <;> rfl
@[simp] theorem f1_ite' (c : Prop) [Decidable c] (a b : Option (M × Slots)) : f1 (if c then a else b) = if c then f1 a else f1 b := by split <;> rfl
@[simp] theorem bnd_ite' {α β γ : Type} (c : Prop) [Decidable c] (a b : Option (α × β)) (g : α → β → Option γ) : bnd (if c then a else b) g = if c then bnd a g else bnd b g := by split <;> rfl
@[simp] theorem obd_ite' {α γ : Type} (c : Prop) [Decidable c] (a b : Option α) (g : α → Option γ) : obd (if c then a else b) g = if c then obd a g else obd b g := by split <;> rfl
@[simp] theorem bnd_szO {α β γ : Type} (n : Nat) (x : Option (α × β)) (g : α → β → Option γ) : bnd (szO n x) g = szO n (bnd x g) := by unfold szO; split <;> rfl
@[simp] theorem obd_szO {α γ : Type} (n : Nat) (x : Option α) (g : α → Option γ) : obd (szO n x) g = szO n (obd x g) := by unfold szO; split <;> rfl
@[simp] theorem f1_szO (n : Nat) (x : Option (M × Slots)) : f1 (szO n x) = szO n (f1 x) := by unfold szO; split <;> rfl
@[simp] theorem map_szO {α β : Type} (n : Nat) (x : Option α) (g : α → β) : (szO n x).map g = szO n (x.map g) := by unfold szO; split <;> rfl
end Mk
set_option maxHeartbeats 4000000
/-! The defs that several laws have, in the language. -/
namespace Mk
open PySem L2
/-- lowest -/
abbrev P_lowest.s0ts0 : S := (.par [0, 1] (.cons (.op .neg (.cons (.var 0) .nil)) (.cons (.op .neg (.cons (.var 1) .nil)) .nil)))
abbrev P_lowest.s0tB : S := (.seq P_lowest.s0ts0 .skip)
abbrev P_lowest.s0eB : S := .skip
abbrev P_lowest.s0 : S := (.ifs (.val (.op .lt (.cons (.var 1) (.cons (.k (.int 0)) .nil)))) P_lowest.s0tB P_lowest.s0eB)
abbrev P_lowest.s1 : S := (.par [2, 3] (.cons (.op .abs (.cons (.var 0) .nil)) (.cons (.var 1) .nil)))
abbrev P_lowest.s2bs0 : S := (.par [2, 3] (.cons (.var 3) (.cons (.op .mod (.cons (.var 2) (.cons (.var 3) .nil))) .nil)))
abbrev P_lowest.s2bB : S := (.seq P_lowest.s2bs0 .skip)
abbrev P_lowest.s2 : S := (.while_ 1000 (.val (.op .gt (.cons (.var 3) (.cons (.k (.int 0)) .nil)))) P_lowest.s2bB)
abbrev P_lowest.s3 : S := (.ret (.tup (.cons (.op .fdiv (.cons (.var 0) (.cons (.var 2) .nil))) (.cons (.op .fdiv (.cons (.var 1) (.cons (.var 2) .nil))) .nil))))
abbrev P_lowest.b : S := (.seq P_lowest.s0 (.seq P_lowest.s1 (.seq P_lowest.s2 (.seq P_lowest.s3 .skip))))
def P_lowest.d : Df := ⟨[false, false], 4, P_lowest.b⟩
def P_lowest.N : List Str := ["over", "under", "one", "other"]
/-- _law_box -/
abbrev Lbox.s0 : S := (.asg (.nm 2) (.ite (.val (.op .lt (.cons (.var 1) (.cons (.op .len (.cons (.var 0) .nil)) .nil)))) (.op .idx (.cons (.var 0) (.cons (.var 1) .nil))) (.k (.int 0))))
abbrev Lbox.s1 : S := (.ret (.lst (.cons (.op .mul (.cons (.op .abs (.cons (.var 2) .nil)) (.cons (.op .int (.cons (.op .ge (.cons (.op .abs (.cons (.var 2) .nil)) (.cons (.op .pow (.cons (.k (.int 10)) (.cons (.k (.int 18)) .nil))) .nil))) .nil)) .nil))) (.cons (.op .add (.cons (.op .add (.cons (.op .mod (.cons (.op .int (.cons (.var 2) .nil)) (.cons (.k (.int 2305843009213693951)) .nil))) (.cons (.op .mul (.cons (.k (.int 39373)) (.cons (.var 1) .nil))) .nil))) (.cons (.k (.int 113)) .nil))) (.cons (.k (.int 0)) .nil)))))
abbrev Lbox.b : S := (.seq Lbox.s0 (.fz [2] (.seq Lbox.s1 .skip)))
def Lbox.d : Df := ⟨[false, false], 3, Lbox.b⟩
def Lbox.N : List Str := ["_law_script", "_law_k", "_law_cell"]
/-- _law_cells -/
abbrev Lcells.s0 : S := (.asg (.nm 2) (.or (.op .list (.cons (.sl (.var 0) .no (.some (.var 1))) .nil)) (.lst (.cons (.k (.int 0)) .nil))))
abbrev Lcells.s1bs0 : S := (.asg (.nm 5) (.op .mod (.cons (.op .int (.cons (.var 3) .nil)) (.cons (.var 1) .nil))))
abbrev Lcells.s1bs1 : S := (.put 2 (.var 5) (.op .add (.cons (.op .idx (.cons (.var 2) (.cons (.var 5) .nil))) (.cons (.op .mul (.cons (.var 4) (.cons (.op .add (.cons (.var 3) (.cons (.k (.int 2)) .nil))) .nil))) .nil))))
abbrev Lcells.s1bB : S := (.seq Lcells.s1bs0 (.seq Lcells.s1bs1 (.fg [3, 4, 5] .skip)))
abbrev Lcells.s1 : S := (.for_ (.t2 (.nm 3) (.nm 4)) (.enum (.sl (.var 0) (.some (.var 1)) (.some (.k (.int 63))))) Lcells.s1bB)
abbrev Lcells.s2 : S := (.ret (.var 2))
abbrev Lcells.b : S := (.seq Lcells.s0 (.seq Lcells.s1 (.seq Lcells.s2 .skip)))
def Lcells.d : Df := ⟨[false, false], 6, Lcells.b⟩
def Lcells.N : List Str := ["_law_script", "_law_most", "_law_cells_here", "_law_k", "_law_cell", "_law_at_so"]
/-- _law_take -/
abbrev Ltake.s0ts0 : S := (.asg (.nm 5) (.op .mod (.cons (.op .int (.cons (.op .idx (.cons (.var 0) (.cons (.k (.int 0)) .nil))) .nil)) (.cons (.var 1) .nil))))
abbrev Ltake.s0ts1 : S := (.put 0 (.k (.int 0)) (.op .fdiv (.cons (.op .idx (.cons (.var 0) (.cons (.k (.int 0)) .nil))) (.cons (.var 1) .nil))))
abbrev Ltake.s0ts2 : S := (.ret (.var 5))
abbrev Ltake.s0tB : S := (.seq Ltake.s0ts0 (.seq Ltake.s0ts1 (.seq Ltake.s0ts2 .skip)))
abbrev Ltake.s0eB : S := .skip
abbrev Ltake.s0 : S := (.ifs (.val (.op .gt (.cons (.op .idx (.cons (.var 0) (.cons (.k (.int 0)) .nil))) (.cons (.k (.int 0)) .nil)))) Ltake.s0tB Ltake.s0eB)
abbrev Ltake.s1 : S := (.put 0 (.k (.int 2)) (.op .add (.cons (.op .idx (.cons (.var 0) (.cons (.k (.int 2)) .nil))) (.cons (.k (.int 1)) .nil))))
abbrev Ltake.s2 : S := (.asg (.nm 2) (.op .mod (.cons (.op .int (.cons (.op .mul (.cons (.op .add (.cons (.op .idx (.cons (.var 0) (.cons (.k (.int 1)) .nil))) (.cons (.op .mul (.cons (.k (.int 48271)) (.cons (.op .idx (.cons (.var 0) (.cons (.k (.int 2)) .nil))) .nil))) .nil))) (.cons (.op .add (.cons (.k (.int 39373)) (.cons (.op .idx (.cons (.var 0) (.cons (.k (.int 2)) .nil))) .nil))) .nil))) .nil)) (.cons (.k (.int 2147483647)) .nil))))
abbrev Ltake.s3 : S := (.asg (.nm 3) (.op .add (.cons (.op .mod (.cons (.op .int (.cons (.var 2) .nil)) (.cons (.k (.int 40009)) .nil))) (.cons (.k (.int 7)) .nil))))
abbrev Ltake.s4 : S := (.asg (.nm 4) (.op .mod (.cons (.op .int (.cons (.op .mul (.cons (.op .add (.cons (.op .add (.cons (.var 2) (.cons (.op .idx (.cons (.var 0) (.cons (.k (.int 2)) .nil))) .nil))) (.cons (.op .fdiv (.cons (.op .idx (.cons (.var 0) (.cons (.k (.int 1)) .nil))) (.cons (.k (.int 1000003)) .nil))) .nil))) (.cons (.var 3) .nil))) .nil)) (.cons (.k (.int 2147483629)) .nil))))
abbrev Ltake.s5 : S := (.ret (.op .mod (.cons (.op .int (.cons (.op .fdiv (.cons (.op .mod (.cons (.op .int (.cons (.op .add (.cons (.op .mul (.cons (.var 4) (.cons (.k (.int 48271)) .nil))) (.cons (.var 2) .nil))) .nil)) (.cons (.k (.int 2147483587)) .nil))) (.cons (.k (.int 64)) .nil))) .nil)) (.cons (.var 1) .nil))))
abbrev Ltake.b : S := (.seq Ltake.s0 (.seq Ltake.s1 (.seq Ltake.s2 (.seq Ltake.s3 (.fz [3] (.seq Ltake.s4 (.seq Ltake.s5 .skip)))))))
def Ltake.d : Df := ⟨[true, false], 6, Ltake.b⟩
def Ltake.N : List Str := ["_law_box_here", "_law_below", "_law_once", "_law_far_so", "_law_twice", "_law_drawn"]
/-- _law_labels -/
abbrev Llabels.s0 : S := (.par [5, 6] (.cons (.lst (.cons (.k (.str "a")) (.cons (.k (.str "b")) (.cons (.k (.str "c")) (.cons (.k (.str "d")) (.cons (.k (.str "e")) (.cons (.k (.str "f")) (.cons (.k (.str "g")) (.cons (.k (.str "ab")) (.cons (.k (.str "z")) (.cons (.k (.str "k")) (.cons (.k (.str "m")) (.cons (.k (.str "x")) .nil))))))))))))) (.cons (.lst .nil) .nil)))
abbrev Llabels.s1 : S := (.asg (.nm 3) (.comp [7] (.nm 7) (.range1 (.var 1)) .nil (.call "_law_take" (.cons (.var 0) (.cons (.var 2) .nil)))))
abbrev Llabels.s2ts0 : S := (.asg (.nm 3) (.op .sorted (.cons (.var 3) .nil)))
abbrev Llabels.s2tB : S := (.seq Llabels.s2ts0 .skip)
abbrev Llabels.s2eB : S := .skip
abbrev Llabels.s2 : S := (.ifs (.val (.op .gt (.cons (.call "_law_take" (.cons (.var 0) (.cons (.k (.int 4)) .nil))) (.cons (.k (.int 0)) .nil)))) Llabels.s2tB Llabels.s2eB)
abbrev Llabels.s3bs0 : S := (.app 6 (.tup (.cons (.pop 5 (.call "_law_take" (.cons (.var 0) (.cons (.op .len (.cons (.var 5) .nil)) .nil)))) (.cons (.op .sub (.cons (.var 4) (.cons (.k (.int 3)) .nil))) (.cons (.op .add (.cons (.k (.int 1)) (.cons (.call "_law_take" (.cons (.var 0) (.cons (.k (.int 5)) .nil))) .nil))) (.cons (.op .add (.cons (.k (.int 1)) (.cons (.call "_law_take" (.cons (.var 0) (.cons (.k (.int 3)) .nil))) .nil))) .nil))))))
abbrev Llabels.s3bB : S := (.seq Llabels.s3bs0 (.fg [4] .skip))
abbrev Llabels.s3 : S := (.for_ (.nm 4) (.seq (.var 3)) Llabels.s3bB)
abbrev Llabels.s4 : S := (.ret (.op .tuple (.cons (.var 6) .nil)))
abbrev Llabels.b : S := (.seq Llabels.s0 (.seq Llabels.s1 (.fz [3] (.seq Llabels.s2 (.fz [3] (.seq Llabels.s3 (.fz [6] (.seq Llabels.s4 .skip))))))))
def Llabels.d : Df := ⟨[true, false, false], 8, Llabels.b⟩
def Llabels.N : List Str := ["_law_box_here", "_law_many", "_law_wide", "_law_wishes", "_law_wish", "_law_names", "_law_found", "_law_turn"]
/-- tupled -/
abbrev P_tupled.s0 : S := (.ret (.ite (.val (.isi (.var 0) [.list, .tuple] true)) (.op .tuple (.cons (.comp [1] (.nm 1) (.seq (.var 0)) .nil (.callp "tupled" (.cons (.var 1) .nil))) .nil)) (.var 0)))
abbrev P_tupled.b : S := (.seq P_tupled.s0 .skip)
def P_tupled.d : Df := ⟨[false], 2, P_tupled.b⟩
def P_tupled.N : List Str := ["thing", "part"]
/-- is_full -/
abbrev P_is_full.s0 : S := (.ret (.and (.op .notN (.cons (.var 0) .nil)) (.op .gt (.cons (.op .idx (.cons (.callp "sizes_ahead" (.cons (.var 1) .nil)) (.cons (.op .neg (.cons (.k (.int 1)) .nil)) .nil))) (.cons (.op .sub (.cons (.op .idx (.cons (.var 0) (.cons (.k (.int 1)) .nil))) (.cons (.op .idx (.cons (.var 0) (.cons (.k (.int 0)) .nil))) .nil))) .nil)))))
abbrev P_is_full.b : S := (.seq P_is_full.s0 .skip)
def P_is_full.d : Df := ⟨[false, false], 2, P_is_full.b⟩
def P_is_full.N : List Str := ["space", "row"]
/-- sizes_ahead -/
abbrev P_sizes_ahead.s0 : S := (.asg (.nm 1) (.lst (.cons (.k (.int 0)) .nil)))
abbrev P_sizes_ahead.s1bs0 : S := (.app 1 (.op .add (.cons (.op .idx (.cons (.var 1) (.cons (.op .neg (.cons (.k (.int 1)) .nil)) .nil))) (.cons (.op .idx (.cons (.var 2) (.cons (.k (.int 2)) .nil))) .nil))))
abbrev P_sizes_ahead.s1bB : S := (.seq P_sizes_ahead.s1bs0 (.fg [2] .skip))
abbrev P_sizes_ahead.s1 : S := (.for_ (.nm 2) (.seq (.var 0)) P_sizes_ahead.s1bB)
abbrev P_sizes_ahead.s2 : S := (.ret (.var 1))
abbrev P_sizes_ahead.b : S := (.seq P_sizes_ahead.s0 (.seq P_sizes_ahead.s1 (.seq P_sizes_ahead.s2 .skip)))
def P_sizes_ahead.d : Df := ⟨[false], 3, P_sizes_ahead.b⟩
def P_sizes_ahead.N : List Str := ["row", "found", "label"]
/-- _law_of -/
abbrev Lof.s0 : S := (.ret (.op .idx (.cons (.var 1) (.cons (.call "_law_take" (.cons (.var 0) (.cons (.op .len (.cons (.var 1) .nil)) .nil))) .nil))))
abbrev Lof.b : S := (.seq Lof.s0 .skip)
def Lof.d : Df := ⟨[true, false], 2, Lof.b⟩
def Lof.N : List Str := ["_law_box_here", "_law_some"]
/-- _law_total -/
abbrev Ltotal.s0 : S := (.ret (.op .sum (.cons (.comp [1] (.nm 1) (.seq (.var 0)) .nil (.op .idx (.cons (.var 1) (.cons (.k (.int 2)) .nil)))) .nil)))
abbrev Ltotal.b : S := (.seq Ltotal.s0 .skip)
def Ltotal.d : Df := ⟨[false], 2, Ltotal.b⟩
def Ltotal.N : List Str := ["_law_row_so", "_law_one"]
/-- _law_same -/
abbrev Lsame.s0ts0ts0 : S := (.ret (.k (.bl false)))
abbrev Lsame.s0ts0tB : S := (.seq Lsame.s0ts0ts0 .skip)
abbrev Lsame.s0ts0eB : S := .skip
abbrev Lsame.s0ts0 : S := (.ifs (.or (.val (.op .ne (.cons (.isi (.var 0) [.list] false) (.cons (.isi (.var 1) [.list] false) .nil)))) (.val (.op .ne (.cons (.isi (.var 0) [.tuple] false) (.cons (.isi (.var 1) [.tuple] false) .nil))))) Lsame.s0ts0tB Lsame.s0ts0eB)
abbrev Lsame.s0ts1 : S := (.ret (.and (.op .eq (.cons (.op .len (.cons (.var 0) .nil)) (.cons (.op .len (.cons (.var 1) .nil)) .nil))) (.op .all (.cons (.comp [2, 3] (.t2 (.nm 2) (.nm 3)) (.zip (.var 0) (.var 1)) .nil (.callp "_law_same" (.cons (.var 2) (.cons (.var 3) .nil)))) .nil))))
abbrev Lsame.s0tB : S := (.seq Lsame.s0ts0 (.seq Lsame.s0ts1 .skip))
abbrev Lsame.s0eB : S := .skip
abbrev Lsame.s0 : S := (.ifs (.val (.isi (.var 1) [.list, .tuple] true)) Lsame.s0tB Lsame.s0eB)
abbrev Lsame.s1ts0 : S := (.ret (.and (.op .eq (.cons (.var 0) (.cons (.var 1) .nil))) (.and (.op .eq (.cons (.isi (.var 0) [.bool] false) (.cons (.isi (.var 1) [.bool] false) .nil))) (.op .eq (.cons (.op .isN (.cons (.var 0) .nil)) (.cons (.op .isN (.cons (.var 1) .nil)) .nil))))))
abbrev Lsame.s1tB : S := (.seq Lsame.s1ts0 .skip)
abbrev Lsame.s1eB : S := .skip
abbrev Lsame.s1 : S := (.ifs (.or (.val (.op .isN (.cons (.var 1) .nil))) (.val (.isi (.var 1) [.bool, .str] true))) Lsame.s1tB Lsame.s1eB)
abbrev Lsame.s2 : S := (.ret (.and (.isi (.var 0) [.int] false) (.and (.not (.isi (.var 0) [.bool] false)) (.op .eq (.cons (.var 0) (.cons (.var 1) .nil))))))
abbrev Lsame.b : S := (.seq Lsame.s0 (.seq Lsame.s1 (.seq Lsame.s2 .skip)))
def Lsame.d : Df := ⟨[false, false], 4, Lsame.b⟩
def Lsame.N : List Str := ["_law_found", "_law_due", "_law_mine", "_law_its"]
/-- _law_edges -/
abbrev Ledges.s0ts0 : S := (.ret (.k .non))
abbrev Ledges.s0tB : S := (.seq Ledges.s0ts0 .skip)
abbrev Ledges.s0eB : S := .skip
abbrev Ledges.s0 : S := (.ifs (.val (.op .eq (.cons (.call "_law_take" (.cons (.var 0) (.cons (.k (.int 2)) .nil))) (.cons (.k (.int 0)) .nil)))) Ledges.s0tB Ledges.s0eB)
abbrev Ledges.s1 : S := (.asg (.nm 2) (.op .sub (.cons (.call "_law_take" (.cons (.var 0) (.cons (.k (.int 12)) .nil))) (.cons (.k (.int 6)) .nil))))
abbrev Ledges.s2 : S := (.ret (.tup (.cons (.var 2) (.cons (.op .add (.cons (.op .add (.cons (.var 2) (.cons (.callp "_law_total" (.cons (.var 1) .nil)) .nil))) (.cons (.call "_law_of" (.cons (.var 0) (.cons (.lst (.cons (.k (.int 0)) (.cons (.k (.int 1)) (.cons (.k (.int 2)) (.cons (.k (.int 5)) (.cons (.k (.int 9)) .nil)))))) .nil))) .nil))) .nil))))
abbrev Ledges.b : S := (.seq Ledges.s0 (.seq Ledges.s1 (.seq Ledges.s2 .skip)))
def Ledges.d : Df := ⟨[true, false], 3, Ledges.b⟩
def Ledges.N : List Str := ["_law_box_here", "_law_row_so", "_law_low"]
/-- Line.__init__ -/
abbrev P_Line_init.s0 : S := (.fput false 0 "Line" 0 (.callp "tupled" (.cons (.var 1) .nil)))
abbrev P_Line_init.s1 : S := (.fput false 0 "Line" 1 (.callp "tupled" (.cons (.var 2) .nil)))
abbrev P_Line_init.s2ts0 : S := .never
abbrev P_Line_init.s2tB : S := (.seq P_Line_init.s2ts0 .skip)
abbrev P_Line_init.s2eB : S := .skip
abbrev P_Line_init.s2 : S := (.ifs (.val (.callp "is_full" (.cons (.fld 0 "Line" 0) (.cons (.fld 0 "Line" 1) .nil)))) P_Line_init.s2tB P_Line_init.s2eB)
abbrev P_Line_init.s3 : S := (.fput true 0 "Line" 2 (.lst (.cons (.k (.int 0)) .nil)))
abbrev P_Line_init.s4bs0 : S := (.fapp 0 "Line" 2 (.op .add (.cons (.fidx 0 "Line" 2 (.op .neg (.cons (.k (.int 1)) .nil))) (.cons (.op .idx (.cons (.var 3) (.cons (.k (.int 2)) .nil))) .nil))))
abbrev P_Line_init.s4bB : S := (.seq P_Line_init.s4bs0 (.fg [3] .skip))
abbrev P_Line_init.s4 : S := (.for_ (.nm 3) (.seq (.fld 0 "Line" 1)) P_Line_init.s4bB)
abbrev P_Line_init.b : S := (.seq P_Line_init.s0 (.seq P_Line_init.s1 (.seq P_Line_init.s2 (.seq P_Line_init.s3 (.seq P_Line_init.s4 .skip)))))
def P_Line_init.d : Df := ⟨[true, false, false], 4, P_Line_init.b⟩
def P_Line_init.N : List Str := ["self", "space", "row", "label"]
/-- Line.ahead -/
abbrev P_Line_ahead.s0 : S := (.ret (.fidx 0 "Line" 2 (.var 1)))
abbrev P_Line_ahead.b : S := (.seq P_Line_ahead.s0 .skip)
def P_Line_ahead.d : Df := ⟨[false, false], 2, P_Line_ahead.b⟩
def P_Line_ahead.N : List Str := ["self", "index"]
/-- Line.drawn -/
abbrev P_Line_drawn.s0 : S := (.ret (.op .sum (.cons (.comp [3] (.nm 3) (.range2 (.var 1) (.op .add (.cons (.var 2) (.cons (.k (.int 1)) .nil)))) .nil (.op .mul (.cons (.op .idx (.cons (.op .idx (.cons (.fld 0 "Line" 1) (.cons (.var 3) .nil))) (.cons (.k (.int 3)) .nil))) (.cons (.op .sub (.cons (.op .idx (.cons (.op .idx (.cons (.fld 0 "Line" 1) (.cons (.var 3) .nil))) (.cons (.k (.int 1)) .nil))) (.cons (.fidx 0 "Line" 2 (.var 3)) .nil))) .nil)))) .nil)))
abbrev P_Line_drawn.b : S := (.seq P_Line_drawn.s0 .skip)
def P_Line_drawn.d : Df := ⟨[false, false, false], 4, P_Line_drawn.b⟩
def P_Line_drawn.N : List Str := ["self", "first", "last", "at"]
/-- Line.free -/
abbrev P_Line_free.s0 : S := (.asg (.nm 1) (.lst .nil))
abbrev P_Line_free.s1bs0 : S := (.asg (.nm 3) (.lst .nil))
abbrev P_Line_free.s1bs1bs0 : S := (.app 3 (.callp "least_of" (.cons (.comp [5] (.nm 5) (.range2 (.var 2) (.methp "Line.many" "Line" (.cons (.var 0) .nil))) .nil (.methp "Line.mean" "Line" (.cons (.var 0) (.cons (.var 4) (.cons (.var 5) .nil))))) .nil)))
abbrev P_Line_free.s1bs1bB : S := (.seq P_Line_free.s1bs1bs0 (.fg [4] .skip))
abbrev P_Line_free.s1bs1 : S := (.for_ (.nm 4) (.range1 (.op .add (.cons (.var 2) (.cons (.k (.int 1)) .nil)))) P_Line_free.s1bs1bB)
abbrev P_Line_free.s1bs2 : S := (.app 1 (.callp "greatest_of" (.cons (.var 3) .nil)))
abbrev P_Line_free.s1bB : S := (.seq P_Line_free.s1bs0 (.seq P_Line_free.s1bs1 (.seq P_Line_free.s1bs2 (.fg [2, 3, 4] .skip))))
abbrev P_Line_free.s1 : S := (.for_ (.nm 2) (.range1 (.methp "Line.many" "Line" (.cons (.var 0) .nil))) P_Line_free.s1bB)
abbrev P_Line_free.s2 : S := (.ret (.var 1))
abbrev P_Line_free.b : S := (.seq P_Line_free.s0 (.seq P_Line_free.s1 (.seq P_Line_free.s2 .skip)))
def P_Line_free.d : Df := ⟨[false], 6, P_Line_free.b⟩
def P_Line_free.N : List Str := ["self", "found", "index", "some", "first", "last"]
/-- Line.high -/
abbrev P_Line_high.s0 : S := (.ret (.ite (.val (.op .isN (.cons (.fld 0 "Line" 0) .nil))) (.k .non) (.tup (.cons (.op .sub (.cons (.op .idx (.cons (.fld 0 "Line" 0) (.cons (.k (.int 1)) .nil))) (.cons (.fidx 0 "Line" 2 (.op .neg (.cons (.k (.int 1)) .nil))) .nil))) (.cons (.k (.int 1)) .nil)))))
abbrev P_Line_high.b : S := (.seq P_Line_high.s0 .skip)
def P_Line_high.d : Df := ⟨[false], 1, P_Line_high.b⟩
def P_Line_high.N : List Str := ["self"]
/-- Line.inside -/
abbrev P_Line_inside.s0ts0 : S := (.ret (.var 1))
abbrev P_Line_inside.s0tB : S := (.seq P_Line_inside.s0ts0 .skip)
abbrev P_Line_inside.s0eB : S := .skip
abbrev P_Line_inside.s0 : S := (.ifs (.val (.op .isN (.cons (.fld 0 "Line" 0) .nil))) P_Line_inside.s0tB P_Line_inside.s0eB)
abbrev P_Line_inside.s1 : S := (.ret (.callp "least_of" (.cons (.lst (.cons (.callp "greatest_of" (.cons (.lst (.cons (.var 1) (.cons (.methp "Line.low" "Line" (.cons (.var 0) .nil)) .nil))) .nil)) (.cons (.methp "Line.high" "Line" (.cons (.var 0) .nil)) .nil))) .nil)))
abbrev P_Line_inside.b : S := (.seq P_Line_inside.s0 (.seq P_Line_inside.s1 .skip))
def P_Line_inside.d : Df := ⟨[false, false], 2, P_Line_inside.b⟩
def P_Line_inside.N : List Str := ["self", "place"]
/-- Line.low -/
abbrev P_Line_low.s0 : S := (.ret (.ite (.val (.op .isN (.cons (.fld 0 "Line" 0) .nil))) (.k .non) (.tup (.cons (.op .idx (.cons (.fld 0 "Line" 0) (.cons (.k (.int 0)) .nil))) (.cons (.k (.int 1)) .nil)))))
abbrev P_Line_low.b : S := (.seq P_Line_low.s0 .skip)
def P_Line_low.d : Df := ⟨[false], 1, P_Line_low.b⟩
def P_Line_low.N : List Str := ["self"]
/-- Line.many -/
abbrev P_Line_many.s0 : S := (.ret (.op .len (.cons (.fld 0 "Line" 1) .nil)))
abbrev P_Line_many.b : S := (.seq P_Line_many.s0 .skip)
def P_Line_many.d : Df := ⟨[false], 1, P_Line_many.b⟩
def P_Line_many.N : List Str := ["self"]
/-- Line.places -/
abbrev P_Line_places.s0 : S := (.ret (.comp [1] (.nm 1) (.seq (.methp "Line.free" "Line" (.cons (.var 0) .nil))) .nil (.methp "Line.inside" "Line" (.cons (.var 0) (.cons (.var 1) .nil)))))
abbrev P_Line_places.b : S := (.seq P_Line_places.s0 .skip)
def P_Line_places.d : Df := ⟨[false], 2, P_Line_places.b⟩
def P_Line_places.N : List Str := ["self", "place"]
/-- Line.weight -/
abbrev P_Line_weight.s0 : S := (.ret (.op .sum (.cons (.comp [3] (.nm 3) (.seq (.sl (.fld 0 "Line" 1) (.some (.var 1)) (.some (.op .add (.cons (.var 2) (.cons (.k (.int 1)) .nil)))))) .nil (.op .idx (.cons (.var 3) (.cons (.k (.int 3)) .nil)))) .nil)))
abbrev P_Line_weight.b : S := (.seq P_Line_weight.s0 .skip)
def P_Line_weight.d : Df := ⟨[false, false, false], 4, P_Line_weight.b⟩
def P_Line_weight.N : List Str := ["self", "first", "last", "label"]
/-- greatest_of -/
abbrev P_greatest_of.s0 : S := (.asg (.nm 1) (.op .idx (.cons (.var 0) (.cons (.k (.int 0)) .nil))))
abbrev P_greatest_of.s1bs0ts0 : S := (.asg (.nm 1) (.var 2))
abbrev P_greatest_of.s1bs0tB : S := (.seq P_greatest_of.s1bs0ts0 .skip)
abbrev P_greatest_of.s1bs0eB : S := .skip
abbrev P_greatest_of.s1bs0 : S := (.ifs (.val (.callp "less" (.cons (.var 1) (.cons (.var 2) .nil)))) P_greatest_of.s1bs0tB P_greatest_of.s1bs0eB)
abbrev P_greatest_of.s1bB : S := (.seq P_greatest_of.s1bs0 (.fg [2] .skip))
abbrev P_greatest_of.s1 : S := (.for_ (.nm 2) (.seq (.sl (.var 0) (.some (.k (.int 1))) .no)) P_greatest_of.s1bB)
abbrev P_greatest_of.s2 : S := (.ret (.var 1))
abbrev P_greatest_of.b : S := (.seq P_greatest_of.s0 (.seq P_greatest_of.s1 (.seq P_greatest_of.s2 .skip)))
def P_greatest_of.d : Df := ⟨[false], 3, P_greatest_of.b⟩
def P_greatest_of.N : List Str := ["some", "found", "one"]
/-- least_of -/
abbrev P_least_of.s0 : S := (.asg (.nm 1) (.op .idx (.cons (.var 0) (.cons (.k (.int 0)) .nil))))
abbrev P_least_of.s1bs0ts0 : S := (.asg (.nm 1) (.var 2))
abbrev P_least_of.s1bs0tB : S := (.seq P_least_of.s1bs0ts0 .skip)
abbrev P_least_of.s1bs0eB : S := .skip
abbrev P_least_of.s1bs0 : S := (.ifs (.val (.callp "less" (.cons (.var 2) (.cons (.var 1) .nil)))) P_least_of.s1bs0tB P_least_of.s1bs0eB)
abbrev P_least_of.s1bB : S := (.seq P_least_of.s1bs0 (.fg [2] .skip))
abbrev P_least_of.s1 : S := (.for_ (.nm 2) (.seq (.sl (.var 0) (.some (.k (.int 1))) .no)) P_least_of.s1bB)
abbrev P_least_of.s2 : S := (.ret (.var 1))
abbrev P_least_of.b : S := (.seq P_least_of.s0 (.seq P_least_of.s1 (.seq P_least_of.s2 .skip)))
def P_least_of.d : Df := ⟨[false], 3, P_least_of.b⟩
def P_least_of.N : List Str := ["some", "found", "one"]
/-- less -/
abbrev P_less.s0 : S := (.ret (.op .lt (.cons (.op .mul (.cons (.op .idx (.cons (.var 0) (.cons (.k (.int 0)) .nil))) (.cons (.op .idx (.cons (.var 1) (.cons (.k (.int 1)) .nil))) .nil))) (.cons (.op .mul (.cons (.op .idx (.cons (.var 1) (.cons (.k (.int 0)) .nil))) (.cons (.op .idx (.cons (.var 0) (.cons (.k (.int 1)) .nil))) .nil))) .nil))))
abbrev P_less.b : S := (.seq P_less.s0 .skip)
def P_less.d : Df := ⟨[false, false], 2, P_less.b⟩
def P_less.N : List Str := ["one", "other"]
/-- best -/
abbrev P_best.s0 : S := (.asg (.nm 2) (.new "Line.__init__" "Line" 3 (.cons (.var 0) (.cons (.var 1) .nil))))
abbrev P_best.s1 : S := (.ret (.comp [3, 4] (.t2 (.nm 3) (.nm 4)) (.enum (.methp "Line.places" "Line" (.cons (.var 2) .nil))) .nil (.callp "plus" (.cons (.var 4) (.cons (.tup (.cons (.methp "Line.ahead" "Line" (.cons (.var 2) (.cons (.var 3) .nil))) (.cons (.k (.int 1)) .nil))) .nil)))))
abbrev P_best.b : S := (.seq P_best.s0 (.fz [2] (.seq P_best.s1 .skip)))
def P_best.d : Df := ⟨[false, false], 5, P_best.b⟩
def P_best.N : List Str := ["space", "row", "line", "index", "place"]
/-- check_full -/
abbrev P_check_full.s0ts0 : S := .never
abbrev P_check_full.s0tB : S := (.seq P_check_full.s0ts0 .skip)
abbrev P_check_full.s0eB : S := .skip
abbrev P_check_full.s0 : S := (.ifs (.val (.callp "is_full" (.cons (.var 0) (.cons (.var 1) .nil)))) P_check_full.s0tB P_check_full.s0eB)
abbrev P_check_full.b : S := (.seq P_check_full.s0 .skip)
def P_check_full.d : Df := ⟨[false, false], 2, P_check_full.b⟩
def P_check_full.N : List Str := ["space", "row"]
/-- Chain.__init__ -/
abbrev P_Chain_init.s0 : S := (.fput false 0 "Chain" 0 (.callp "tupled" (.cons (.var 2) .nil)))
abbrev P_Chain_init.s1 : S := (.fput false 0 "Chain" 1 (.comp [3] (.nm 3) (.range1 (.meth "Chain.many!" "Chain" (.cons (.var 0) .nil))) .nil (.op .sum (.cons (.comp [4] (.nm 4) (.seq (.sl (.fld 0 "Chain" 0) .no (.some (.var 3)))) .nil (.op .idx (.cons (.var 4) (.cons (.k (.int 2)) .nil)))) .nil))))
abbrev P_Chain_init.s2 : S := (.fput false 0 "Chain" 2 (.comp [4, 5] (.t2 (.nm 4) (.nm 5)) (.zip (.fld 0 "Chain" 0) (.fld 0 "Chain" 1)) .nil (.op .sub (.cons (.op .idx (.cons (.var 4) (.cons (.k (.int 1)) .nil))) (.cons (.var 5) .nil)))))
abbrev P_Chain_init.s3 : S := (.fput false 0 "Chain" 3 (.k .non))
abbrev P_Chain_init.s4ts0 : S := (.fput false 0 "Chain" 3 (.tup (.cons (.op .idx (.cons (.var 1) (.cons (.k (.int 0)) .nil))) (.cons (.op .sub (.cons (.op .idx (.cons (.var 1) (.cons (.k (.int 1)) .nil))) (.cons (.op .sum (.cons (.comp [4] (.nm 4) (.seq (.fld 0 "Chain" 0)) .nil (.op .idx (.cons (.var 4) (.cons (.k (.int 2)) .nil)))) .nil)) .nil))) .nil))))
abbrev P_Chain_init.s4tB : S := (.seq P_Chain_init.s4ts0 .skip)
abbrev P_Chain_init.s4eB : S := .skip
abbrev P_Chain_init.s4 : S := (.ifs (.val (.op .notN (.cons (.var 1) .nil))) P_Chain_init.s4tB P_Chain_init.s4eB)
abbrev P_Chain_init.b : S := (.seq P_Chain_init.s0 (.seq P_Chain_init.s1 (.seq P_Chain_init.s2 (.seq P_Chain_init.s3 (.seq P_Chain_init.s4 .skip)))))
def P_Chain_init.d : Df := ⟨[true, false, false], 6, P_Chain_init.b⟩
def P_Chain_init.N : List Str := ["self", "space", "row", "at", "label", "ahead"]
/-- Chain.first_above -/
abbrev P_Chain_first_above.s0 : S := (.asg (.nm 3) (.comp [5] (.nm 5) (.range1 (.op .add (.cons (.methp "Chain.many" "Chain" (.cons (.var 0) .nil)) (.cons (.k (.int 1)) .nil)))) .nil (.methp "Chain.slope" "Chain" (.cons (.var 0) (.cons (.var 5) (.cons (.var 1) .nil))))))
abbrev P_Chain_first_above.s1 : S := (.asg (.nm 4) (.comp [5, 6] (.t2 (.nm 5) (.nm 6)) (.enum (.var 3)) (.cons (.val (.op .eq (.cons (.var 6) (.cons (.op .min1 (.cons (.var 3) .nil)) .nil)))) .nil) (.var 5)))
abbrev P_Chain_first_above.s2 : S := (.ret (.ite (.val (.var 2)) (.op .idx (.cons (.var 4) (.cons (.op .neg (.cons (.k (.int 1)) .nil)) .nil))) (.op .idx (.cons (.var 4) (.cons (.k (.int 0)) .nil)))))
abbrev P_Chain_first_above.b : S := (.seq P_Chain_first_above.s0 (.fz [3] (.seq P_Chain_first_above.s1 (.fz [4] (.seq P_Chain_first_above.s2 .skip)))))
def P_Chain_first_above.d : Df := ⟨[false, false, false], 7, P_Chain_first_above.b⟩
def P_Chain_first_above.N : List Str := ["self", "height", "is_low", "slopes", "found", "first", "slope"]
/-- Chain.heights -/
abbrev P_Chain_heights.s0 : S := (.asg (.nm 2) (.sd (.comp [4] (.nm 4) (.seq (.fld 0 "Chain" 2)) .nil (.var 4))))
abbrev P_Chain_heights.s1 : S := (.asg (.nm 3) (.op .mul (.cons (.lst (.cons (.op .idx (.cons (.var 2) (.cons (.k (.int 0)) .nil))) .nil)) (.cons (.methp "Chain.many" "Chain" (.cons (.var 0) .nil)) .nil))))
abbrev P_Chain_heights.s2bs0bs0 : S := (.put 3 (.var 6) (.var 5))
abbrev P_Chain_heights.s2bs0bB : S := (.seq P_Chain_heights.s2bs0bs0 (.fg [6] .skip))
abbrev P_Chain_heights.s2bs0 : S := (.for_ (.nm 6) (.range2 (.methp "Chain.first_above" "Chain" (.cons (.var 0) (.cons (.var 4) (.cons (.var 1) .nil)))) (.methp "Chain.many" "Chain" (.cons (.var 0) .nil))) P_Chain_heights.s2bs0bB)
abbrev P_Chain_heights.s2bB : S := (.seq P_Chain_heights.s2bs0 (.fg [4, 5, 6] .skip))
abbrev P_Chain_heights.s2 : S := (.for_ (.t2 (.nm 4) (.nm 5)) (.zip (.var 2) (.sl (.var 2) (.some (.k (.int 1))) .no)) P_Chain_heights.s2bB)
abbrev P_Chain_heights.s3ts0 : S := (.ret (.var 3))
abbrev P_Chain_heights.s3tB : S := (.seq P_Chain_heights.s3ts0 .skip)
abbrev P_Chain_heights.s3eB : S := .skip
abbrev P_Chain_heights.s3 : S := (.ifs (.val (.op .isN (.cons (.fld 0 "Chain" 3) .nil))) P_Chain_heights.s3tB P_Chain_heights.s3eB)
abbrev P_Chain_heights.s4 : S := (.asg (.t2 (.nm 7) (.nm 8)) (.fld 0 "Chain" 3))
abbrev P_Chain_heights.s5 : S := (.ret (.comp [4] (.nm 4) (.seq (.var 3)) .nil (.op .min2 (.cons (.op .max2 (.cons (.var 4) (.cons (.var 7) .nil))) (.cons (.var 8) .nil)))))
abbrev P_Chain_heights.b : S := (.seq P_Chain_heights.s0 (.fz [2] (.seq P_Chain_heights.s1 (.seq P_Chain_heights.s2 (.fz [3] (.seq P_Chain_heights.s3 (.seq P_Chain_heights.s4 (.seq P_Chain_heights.s5 .skip))))))))
def P_Chain_heights.d : Df := ⟨[false, false], 9, P_Chain_heights.b⟩
def P_Chain_heights.N : List Str := ["self", "is_low", "wanted", "found", "height", "later", "at", "low", "high"]
/-- Chain.many -/
abbrev P_Chain_many.s0 : S := (.ret (.op .len (.cons (.fld 0 "Chain" 0) .nil)))
abbrev P_Chain_many.b : S := (.seq P_Chain_many.s0 .skip)
def P_Chain_many.d : Df := ⟨[false], 1, P_Chain_many.b⟩
def P_Chain_many.N : List Str := ["self"]
/-- Chain.many! -/
abbrev P_Chain_many_l.s0 : S := (.ret (.op .len (.cons (.fld 0 "Chain" 0) .nil)))
abbrev P_Chain_many_l.b : S := (.seq P_Chain_many_l.s0 .skip)
def P_Chain_many_l.d : Df := ⟨[true], 1, P_Chain_many_l.b⟩
def P_Chain_many_l.N : List Str := ["self"]
/-- Chain.placing -/
abbrev P_Chain_placing.s0 : S := (.ret (.op .tuple (.cons (.comp [2, 3] (.t2 (.nm 2) (.nm 3)) (.zip (.methp "Chain.heights" "Chain" (.cons (.var 0) (.cons (.var 1) .nil))) (.fld 0 "Chain" 1)) .nil (.op .add (.cons (.var 2) (.cons (.var 3) .nil)))) .nil)))
abbrev P_Chain_placing.b : S := (.seq P_Chain_placing.s0 .skip)
def P_Chain_placing.d : Df := ⟨[false, false], 4, P_Chain_placing.b⟩
def P_Chain_placing.N : List Str := ["self", "is_low", "height", "ahead"]
/-- Chain.pushed -/
abbrev P_Chain_pushed.s0 : S := (.par [3, 4] (.cons (.methp "Chain.weight" "Chain" (.cons (.var 0) (.cons (.var 1) .nil))) (.cons (.op .idx (.cons (.fld 0 "Chain" 2) (.cons (.var 1) .nil))) .nil)))
abbrev P_Chain_pushed.s1ts0 : S := (.ret (.tup (.cons (.op .neg (.cons (.var 3) .nil)) (.cons (.var 3) .nil))))
abbrev P_Chain_pushed.s1tB : S := (.seq P_Chain_pushed.s1ts0 .skip)
abbrev P_Chain_pushed.s1eB : S := .skip
abbrev P_Chain_pushed.s1 : S := (.ifs (.val (.op .eq (.cons (.var 2) (.cons (.var 4) .nil)))) P_Chain_pushed.s1tB P_Chain_pushed.s1eB)
abbrev P_Chain_pushed.s2 : S := (.ret (.ite (.val (.op .gt (.cons (.var 2) (.cons (.var 4) .nil)))) (.tup (.cons (.var 3) (.cons (.var 3) .nil))) (.tup (.cons (.op .neg (.cons (.var 3) .nil)) (.cons (.op .neg (.cons (.var 3) .nil)) .nil)))))
abbrev P_Chain_pushed.b : S := (.seq P_Chain_pushed.s0 (.fz [3] (.seq P_Chain_pushed.s1 (.seq P_Chain_pushed.s2 .skip))))
def P_Chain_pushed.d : Df := ⟨[false, false, false], 5, P_Chain_pushed.b⟩
def P_Chain_pushed.N : List Str := ["self", "at", "height", "weight", "wanted"]
/-- Chain.slope -/
abbrev P_Chain_slope.s0 : S := (.asg (.nm 3) (.comp [4] (.nm 4) (.range2 (.var 1) (.methp "Chain.many" "Chain" (.cons (.var 0) .nil))) .nil (.tup (.cons (.methp "Chain.weight" "Chain" (.cons (.var 0) (.cons (.var 4) .nil))) (.cons (.op .le (.cons (.op .idx (.cons (.fld 0 "Chain" 2) (.cons (.var 4) .nil))) (.cons (.var 2) .nil))) .nil)))))
abbrev P_Chain_slope.s1 : S := (.ret (.op .sum (.cons (.comp [5, 6] (.t2 (.nm 5) (.nm 6)) (.seq (.var 3)) .nil (.ite (.val (.var 6)) (.var 5) (.op .neg (.cons (.var 5) .nil)))) .nil)))
abbrev P_Chain_slope.b : S := (.seq P_Chain_slope.s0 (.fz [3] (.seq P_Chain_slope.s1 .skip)))
def P_Chain_slope.d : Df := ⟨[false, false, false], 7, P_Chain_slope.b⟩
def P_Chain_slope.N : List Str := ["self", "first", "height", "ways", "at", "weight", "is_above"]
/-- Chain.weight -/
abbrev P_Chain_weight.s0 : S := (.ret (.op .idx (.cons (.op .idx (.cons (.fld 0 "Chain" 0) (.cons (.var 1) .nil))) (.cons (.k (.int 3)) .nil))))
abbrev P_Chain_weight.b : S := (.seq P_Chain_weight.s0 .skip)
def P_Chain_weight.d : Df := ⟨[false, false], 2, P_Chain_weight.b⟩
def P_Chain_weight.N : List Str := ["self", "at"]
/-- look_room -/
abbrev P_look_room.s0ts0 : S := .never
abbrev P_look_room.s0tB : S := (.seq P_look_room.s0ts0 .skip)
abbrev P_look_room.s0eB : S := .skip
abbrev P_look_room.s0 : S := (.ifs (.val (.callp "is_full" (.cons (.var 0) (.cons (.var 1) .nil)))) P_look_room.s0tB P_look_room.s0eB)
abbrev P_look_room.b : S := (.seq P_look_room.s0 .skip)
def P_look_room.d : Df := ⟨[false, false], 2, P_look_room.b⟩
def P_look_room.N : List Str := ["space", "row"]
/-- cost -/
abbrev P_cost.s0 : S := (.ret (.op .sum (.cons (.comp [2, 3] (.t2 (.nm 2) (.nm 3)) (.zip (.var 0) (.var 1)) .nil (.op .mul (.cons (.op .idx (.cons (.var 2) (.cons (.k (.int 3)) .nil))) (.cons (.op .abs (.cons (.op .sub (.cons (.var 3) (.cons (.op .idx (.cons (.var 2) (.cons (.k (.int 1)) .nil))) .nil))) .nil)) .nil)))) .nil)))
abbrev P_cost.b : S := (.seq P_cost.s0 .skip)
def P_cost.d : Df := ⟨[false, false], 4, P_cost.b⟩
def P_cost.N : List Str := ["row", "placing", "label", "place"]
/-- law -/
abbrev P_law.s0 : S := (.asg (.nm 1) (.callp "_law_cells" (.cons (.var 0) (.cons (.k (.int 3)) .nil))))
abbrev P_law.s1 : S := (.ret (.op .all (.cons (.comp [2] (.nm 2) (.range1 (.op .len (.cons (.var 1) .nil))) .nil (.call "_law_right" (.cons (.callp "_law_box" (.cons (.var 1) (.cons (.var 2) .nil))) .nil))) .nil)))
abbrev P_law.b : S := (.seq P_law.s0 (.fz [1] (.seq P_law.s1 .skip)))
def P_law.d : Df := ⟨[false], 3, P_law.b⟩
def P_law.N : List Str := ["_law_script", "_law_cells_here", "_law_k"]
/-- _law_lists -/
abbrev Llists.s0 : S := (.ret (.ite (.val (.isi (.var 0) [.list, .tuple] true)) (.comp [1] (.nm 1) (.seq (.var 0)) .nil (.callp "_law_lists" (.cons (.var 1) .nil))) (.var 0)))
abbrev Llists.b : S := (.seq Llists.s0 .skip)
def Llists.d : Df := ⟨[false], 2, Llists.b⟩
def Llists.N : List Str := ["_law_matter", "_law_bit"]
/-- half_up -/
abbrev P_half_up.s0 : S := (.ret (.op .neg (.cons (.op .fdiv (.cons (.op .neg (.cons (.var 0) .nil)) (.cons (.k (.int 2)) .nil))) .nil)))
abbrev P_half_up.b : S := (.seq P_half_up.s0 .skip)
def P_half_up.d : Df := ⟨[false], 1, P_half_up.b⟩
def P_half_up.N : List Str := ["number"]
/-- reasons -/
abbrev P_reasons.s0 : S := (.asg (.nm 2) (.op .len (.cons (.var 1) .nil)))
abbrev P_reasons.s1 : S := (.asg (.nm 3) (.comp2 [4, 5] [5] (.nm 4) (.range1 (.var 2)) .nil (.nm 5) (.range2 (.var 4) (.var 2)) .nil (.tup (.cons (.g "PUSH") (.cons (.var 4) (.cons (.var 5) .nil))))))
abbrev P_reasons.s2ts0 : S := (.asg (.nm 3) (.op .add (.cons (.op .add (.cons (.comp [4] (.nm 4) (.range1 (.var 2)) .nil (.tup (.cons (.g "HIGH") (.cons (.var 4) .nil)))) (.cons (.comp [5] (.nm 5) (.range1 (.var 2)) .nil (.tup (.cons (.g "LOW") (.cons (.var 5) .nil)))) .nil))) (.cons (.var 3) .nil))))
abbrev P_reasons.s2tB : S := (.seq P_reasons.s2ts0 .skip)
abbrev P_reasons.s2eB : S := .skip
abbrev P_reasons.s2 : S := (.ifs (.val (.op .notN (.cons (.var 0) .nil))) P_reasons.s2tB P_reasons.s2eB)
abbrev P_reasons.s3 : S := (.ret (.var 3))
abbrev P_reasons.b : S := (.seq P_reasons.s0 (.seq P_reasons.s1 (.fz [3] (.seq P_reasons.s2 (.seq P_reasons.s3 .skip)))))
def P_reasons.d : Df := ⟨[false, false], 6, P_reasons.b⟩
def P_reasons.N : List Str := ["space", "row", "many", "found", "one", "other"]
/-- shows -/
abbrev P_shows.s0 : S := (.asg (.nm 3) (.callp "sizes_ahead" (.cons (.var 1) .nil)))
abbrev P_shows.s1ts0 : S := (.ret (.op .sub (.cons (.op .add (.cons (.op .idx (.cons (.var 0) (.cons (.k (.int 0)) .nil))) (.cons (.op .idx (.cons (.var 3) (.cons (.op .idx (.cons (.var 2) (.cons (.k (.int 1)) .nil))) .nil))) .nil))) (.cons (.op .idx (.cons (.op .idx (.cons (.var 1) (.cons (.op .idx (.cons (.var 2) (.cons (.k (.int 1)) .nil))) .nil))) (.cons (.k (.int 1)) .nil))) .nil))))
abbrev P_shows.s1tB : S := (.seq P_shows.s1ts0 .skip)
abbrev P_shows.s1eB : S := .skip
abbrev P_shows.s1 : S := (.ifs (.val (.op .eq (.cons (.op .idx (.cons (.var 2) (.cons (.k (.int 0)) .nil))) (.cons (.g "LOW") .nil)))) P_shows.s1tB P_shows.s1eB)
abbrev P_shows.s2ts0 : S := (.ret (.op .sub (.cons (.op .sub (.cons (.op .add (.cons (.op .idx (.cons (.op .idx (.cons (.var 1) (.cons (.op .idx (.cons (.var 2) (.cons (.k (.int 1)) .nil))) .nil))) (.cons (.k (.int 1)) .nil))) (.cons (.op .idx (.cons (.var 3) (.cons (.op .neg (.cons (.k (.int 1)) .nil)) .nil))) .nil))) (.cons (.op .idx (.cons (.var 3) (.cons (.op .idx (.cons (.var 2) (.cons (.k (.int 1)) .nil))) .nil))) .nil))) (.cons (.op .idx (.cons (.var 0) (.cons (.k (.int 1)) .nil))) .nil))))
abbrev P_shows.s2tB : S := (.seq P_shows.s2ts0 .skip)
abbrev P_shows.s2eB : S := .skip
abbrev P_shows.s2 : S := (.ifs (.val (.op .eq (.cons (.op .idx (.cons (.var 2) (.cons (.k (.int 0)) .nil))) (.cons (.g "HIGH") .nil)))) P_shows.s2tB P_shows.s2eB)
abbrev P_shows.s3 : S := (.asg (.t2 (.nm 4) (.nm 5)) (.sl (.var 2) (.some (.k (.int 1))) .no))
abbrev P_shows.s4 : S := (.ret (.callp "half_up" (.cons (.op .sub (.cons (.op .sub (.cons (.op .add (.cons (.op .idx (.cons (.op .idx (.cons (.var 1) (.cons (.var 4) .nil))) (.cons (.k (.int 1)) .nil))) (.cons (.op .idx (.cons (.var 3) (.cons (.var 5) .nil))) .nil))) (.cons (.op .idx (.cons (.var 3) (.cons (.var 4) .nil))) .nil))) (.cons (.op .idx (.cons (.op .idx (.cons (.var 1) (.cons (.var 5) .nil))) (.cons (.k (.int 1)) .nil))) .nil))) .nil)))
abbrev P_shows.b : S := (.seq P_shows.s0 (.fz [3] (.seq P_shows.s1 (.seq P_shows.s2 (.seq P_shows.s3 (.seq P_shows.s4 .skip))))))
def P_shows.d : Df := ⟨[false, false, false], 6, P_shows.b⟩
def P_shows.N : List Str := ["space", "row", "reason", "ahead", "one", "other"]
/-- lowest -/
abbrev P_lowest_2.s0 : S := (.expr (.callp "look_room" (.cons (.var 0) (.cons (.var 1) .nil))))
abbrev P_lowest_2.s1 : S := (.ret (.methp "Chain.placing" "Chain" (.cons (.new "Chain.__init__" "Chain" 4 (.cons (.var 0) (.cons (.var 1) .nil))) (.cons (.k (.bl true)) .nil))))
abbrev P_lowest_2.b : S := (.seq P_lowest_2.s0 (.seq P_lowest_2.s1 .skip))
def P_lowest_2.d : Df := ⟨[false, false], 2, P_lowest_2.b⟩
def P_lowest_2.N : List Str := ["space", "row"]
/-- _law_low_terms -/
abbrev Llow_terms.s0ts0 : S := (.par [0, 1] (.cons (.op .sub (.cons (.k (.int 0)) (.cons (.var 0) .nil))) (.cons (.op .sub (.cons (.k (.int 0)) (.cons (.var 1) .nil))) .nil)))
abbrev Llow_terms.s0tB : S := (.seq Llow_terms.s0ts0 .skip)
abbrev Llow_terms.s0eB : S := .skip
abbrev Llow_terms.s0 : S := (.ifs (.val (.op .lt (.cons (.var 1) (.cons (.k (.int 0)) .nil)))) Llow_terms.s0tB Llow_terms.s0eB)
abbrev Llow_terms.s1 : S := (.par [2, 3] (.cons (.op .abs (.cons (.var 0) .nil)) (.cons (.var 1) .nil)))
abbrev Llow_terms.s2bs0 : S := (.par [2, 3] (.cons (.var 3) (.cons (.op .mod (.cons (.op .int (.cons (.var 2) .nil)) (.cons (.var 3) .nil))) .nil)))
abbrev Llow_terms.s2bB : S := (.seq Llow_terms.s2bs0 .skip)
abbrev Llow_terms.s2 : S := (.while_ 1000 (.val (.op .ne (.cons (.var 3) (.cons (.k (.int 0)) .nil)))) Llow_terms.s2bB)
abbrev Llow_terms.s3 : S := (.ret (.tup (.cons (.op .fdiv (.cons (.var 0) (.cons (.var 2) .nil))) (.cons (.op .fdiv (.cons (.var 1) (.cons (.var 2) .nil))) .nil))))
abbrev Llow_terms.b : S := (.seq Llow_terms.s0 (.seq Llow_terms.s1 (.seq Llow_terms.s2 (.seq Llow_terms.s3 .skip))))
def Llow_terms.d : Df := ⟨[false, false], 4, Llow_terms.b⟩
def Llow_terms.N : List Str := ["_law_upper", "_law_lower", "_law_one", "_law_other_so"]
/-- _law_plus -/
abbrev Lplus.s0 : S := (.ret (.callp "_law_low_terms" (.cons (.op .add (.cons (.op .mul (.cons (.op .idx (.cons (.var 0) (.cons (.k (.int 0)) .nil))) (.cons (.op .idx (.cons (.var 1) (.cons (.k (.int 1)) .nil))) .nil))) (.cons (.op .mul (.cons (.op .idx (.cons (.var 1) (.cons (.k (.int 0)) .nil))) (.cons (.op .idx (.cons (.var 0) (.cons (.k (.int 1)) .nil))) .nil))) .nil))) (.cons (.op .mul (.cons (.op .idx (.cons (.var 0) (.cons (.k (.int 1)) .nil))) (.cons (.op .idx (.cons (.var 1) (.cons (.k (.int 1)) .nil))) .nil))) .nil))))
abbrev Lplus.b : S := (.seq Lplus.s0 .skip)
def Lplus.d : Df := ⟨[false, false], 2, Lplus.b⟩
def Lplus.N : List Str := ["_law_one", "_law_other_so"]
/-- least_far -/
abbrev P_least_far.s0 : S := (.ret (.op .max1 (.cons (.comp [2] (.nm 2) (.seq (.callp "reasons" (.cons (.var 0) (.cons (.var 1) .nil)))) .nil (.callp "shows" (.cons (.var 0) (.cons (.var 1) (.cons (.var 2) .nil))))) .nil)))
abbrev P_least_far.b : S := (.seq P_least_far.s0 .skip)
def P_least_far.d : Df := ⟨[false, false], 3, P_least_far.b⟩
def P_least_far.N : List Str := ["space", "row", "reason"]
/-- least_greatest -/
abbrev P_least_greatest.s0 : S := (.expr (.callp "check_full" (.cons (.var 0) (.cons (.var 1) .nil))))
abbrev P_least_greatest.s1 : S := (.ret (.callp "least_far" (.cons (.var 0) (.cons (.var 1) .nil))))
abbrev P_least_greatest.b : S := (.seq P_least_greatest.s0 (.seq P_least_greatest.s1 .skip))
def P_least_greatest.d : Df := ⟨[false, false], 2, P_least_greatest.b⟩
def P_least_greatest.N : List Str := ["space", "row"]
/-- highest -/
abbrev P_highest.s0 : S := (.expr (.callp "look_room" (.cons (.var 0) (.cons (.var 1) .nil))))
abbrev P_highest.s1 : S := (.ret (.methp "Chain.placing" "Chain" (.cons (.new "Chain.__init__" "Chain" 4 (.cons (.var 0) (.cons (.var 1) .nil))) (.cons (.k (.bl false)) .nil))))
abbrev P_highest.b : S := (.seq P_highest.s0 (.seq P_highest.s1 .skip))
def P_highest.d : Df := ⟨[false, false], 2, P_highest.b⟩
def P_highest.N : List Str := ["space", "row"]
/-- Line.mean -/
abbrev P_Line_mean.s0 : S := (.ret (.callp "lowest" (.cons (.methp "Line.drawn" "Line" (.cons (.var 0) (.cons (.var 1) (.cons (.var 2) .nil)))) (.cons (.methp "Line.weight" "Line" (.cons (.var 0) (.cons (.var 1) (.cons (.var 2) .nil)))) .nil))))
abbrev P_Line_mean.b : S := (.seq P_Line_mean.s0 .skip)
def P_Line_mean.d : Df := ⟨[false, false, false], 3, P_Line_mean.b⟩
def P_Line_mean.N : List Str := ["self", "first", "last"]
/-- _law_times -/
abbrev Ltimes.s0 : S := (.ret (.callp "_law_low_terms" (.cons (.op .mul (.cons (.op .idx (.cons (.var 0) (.cons (.k (.int 0)) .nil))) (.cons (.var 1) .nil))) (.cons (.op .idx (.cons (.var 0) (.cons (.k (.int 1)) .nil))) .nil))))
abbrev Ltimes.b : S := (.seq Ltimes.s0 .skip)
def Ltimes.d : Df := ⟨[false, false], 2, Ltimes.b⟩
def Ltimes.N : List Str := ["_law_one", "_law_number"]
/-- _law_less -/
abbrev Lless.s0 : S := (.ret (.op .lt (.cons (.op .mul (.cons (.op .idx (.cons (.var 0) (.cons (.k (.int 0)) .nil))) (.cons (.op .idx (.cons (.var 1) (.cons (.k (.int 1)) .nil))) .nil))) (.cons (.op .mul (.cons (.op .idx (.cons (.var 1) (.cons (.k (.int 0)) .nil))) (.cons (.op .idx (.cons (.var 0) (.cons (.k (.int 1)) .nil))) .nil))) .nil))))
abbrev Lless.b : S := (.seq Lless.s0 .skip)
def Lless.d : Df := ⟨[false, false], 2, Lless.b⟩
def Lless.N : List Str := ["_law_one", "_law_other_so"]
/-- plus -/
abbrev P_plus.s0 : S := (.ret (.callp "lowest" (.cons (.op .add (.cons (.op .mul (.cons (.op .idx (.cons (.var 0) (.cons (.k (.int 0)) .nil))) (.cons (.op .idx (.cons (.var 1) (.cons (.k (.int 1)) .nil))) .nil))) (.cons (.op .mul (.cons (.op .idx (.cons (.var 1) (.cons (.k (.int 0)) .nil))) (.cons (.op .idx (.cons (.var 0) (.cons (.k (.int 1)) .nil))) .nil))) .nil))) (.cons (.op .mul (.cons (.op .idx (.cons (.var 0) (.cons (.k (.int 1)) .nil))) (.cons (.op .idx (.cons (.var 1) (.cons (.k (.int 1)) .nil))) .nil))) .nil))))
abbrev P_plus.b : S := (.seq P_plus.s0 .skip)
def P_plus.d : Df := ⟨[false, false], 2, P_plus.b⟩
def P_plus.N : List Str := ["one", "other"]
/-- least_sum -/
abbrev P_least_sum.s0 : S := (.ret (.callp "cost" (.cons (.var 1) (.cons (.callp "lowest" (.cons (.var 0) (.cons (.var 1) .nil))) .nil))))
abbrev P_least_sum.b : S := (.seq P_least_sum.s0 .skip)
def P_least_sum.d : Df := ⟨[false, false], 2, P_least_sum.b⟩
def P_least_sum.N : List Str := ["space", "row"]
/-- times -/
abbrev P_times.s0 : S := (.ret (.callp "lowest" (.cons (.op .mul (.cons (.op .idx (.cons (.var 0) (.cons (.k (.int 0)) .nil))) (.cons (.var 1) .nil))) (.cons (.op .idx (.cons (.var 0) (.cons (.k (.int 1)) .nil))) .nil))))
abbrev P_times.b : S := (.seq P_times.s0 .skip)
def P_times.d : Df := ⟨[false, false], 2, P_times.b⟩
def P_times.N : List Str := ["one", "number"]
/-- greatest_reason -/
abbrev P_greatest_reason.s0 : S := (.asg (.nm 2) (.callp "least_greatest" (.cons (.var 0) (.cons (.var 1) .nil))))
abbrev P_greatest_reason.s1 : S := (.ret (.op .idx (.cons (.comp [3] (.nm 3) (.seq (.callp "reasons" (.cons (.var 0) (.cons (.var 1) .nil)))) (.cons (.val (.op .eq (.cons (.callp "shows" (.cons (.var 0) (.cons (.var 1) (.cons (.var 3) .nil)))) (.cons (.var 2) .nil)))) .nil) (.var 3)) (.cons (.k (.int 0)) .nil))))
abbrev P_greatest_reason.b : S := (.seq P_greatest_reason.s0 (.fz [2] (.seq P_greatest_reason.s1 .skip)))
def P_greatest_reason.d : Df := ⟨[false, false], 4, P_greatest_reason.b⟩
def P_greatest_reason.N : List Str := ["space", "row", "far", "reason"]
/-- _law_take -/
abbrev Ltake_2.s0ts0 : S := (.asg (.nm 5) (.op .mod (.cons (.op .int (.cons (.op .idx (.cons (.var 0) (.cons (.k (.int 0)) .nil))) .nil)) (.cons (.var 1) .nil))))
abbrev Ltake_2.s0ts1 : S := (.put 0 (.k (.int 0)) (.op .fdiv (.cons (.op .idx (.cons (.var 0) (.cons (.k (.int 0)) .nil))) (.cons (.var 1) .nil))))
abbrev Ltake_2.s0ts2 : S := (.ret (.var 5))
abbrev Ltake_2.s0tB : S := (.seq Ltake_2.s0ts0 (.seq Ltake_2.s0ts1 (.seq Ltake_2.s0ts2 .skip)))
abbrev Ltake_2.s0eB : S := .skip
abbrev Ltake_2.s0 : S := (.ifs (.val (.op .gt (.cons (.op .idx (.cons (.var 0) (.cons (.k (.int 0)) .nil))) (.cons (.k (.int 0)) .nil)))) Ltake_2.s0tB Ltake_2.s0eB)
abbrev Ltake_2.s1 : S := (.put 0 (.k (.int 2)) (.op .add (.cons (.op .idx (.cons (.var 0) (.cons (.k (.int 2)) .nil))) (.cons (.k (.int 1)) .nil))))
abbrev Ltake_2.s2 : S := (.asg (.nm 2) (.op .mod (.cons (.op .int (.cons (.op .mul (.cons (.op .add (.cons (.op .idx (.cons (.var 0) (.cons (.k (.int 1)) .nil))) (.cons (.op .mul (.cons (.k (.int 48271)) (.cons (.op .idx (.cons (.var 0) (.cons (.k (.int 2)) .nil))) .nil))) .nil))) (.cons (.op .add (.cons (.k (.int 39373)) (.cons (.op .idx (.cons (.var 0) (.cons (.k (.int 2)) .nil))) .nil))) .nil))) .nil)) (.cons (.k (.int 2147483647)) .nil))))
abbrev Ltake_2.s3 : S := (.asg (.nm 3) (.op .add (.cons (.op .mod (.cons (.op .int (.cons (.var 2) .nil)) (.cons (.k (.int 40009)) .nil))) (.cons (.k (.int 7)) .nil))))
abbrev Ltake_2.s4 : S := (.asg (.nm 4) (.op .mod (.cons (.op .int (.cons (.op .mul (.cons (.op .add (.cons (.op .add (.cons (.var 2) (.cons (.op .idx (.cons (.var 0) (.cons (.k (.int 2)) .nil))) .nil))) (.cons (.op .fdiv (.cons (.op .idx (.cons (.var 0) (.cons (.k (.int 1)) .nil))) (.cons (.k (.int 1000003)) .nil))) .nil))) (.cons (.var 3) .nil))) .nil)) (.cons (.k (.int 2147483629)) .nil))))
abbrev Ltake_2.s5 : S := (.ret (.op .mod (.cons (.op .int (.cons (.op .fdiv (.cons (.op .mod (.cons (.op .int (.cons (.op .add (.cons (.op .mul (.cons (.var 4) (.cons (.k (.int 48271)) .nil))) (.cons (.var 2) .nil))) .nil)) (.cons (.k (.int 2147483587)) .nil))) (.cons (.k (.int 64)) .nil))) .nil)) (.cons (.var 1) .nil))))
abbrev Ltake_2.b : S := (.seq Ltake_2.s0 (.seq Ltake_2.s1 (.seq Ltake_2.s2 (.seq Ltake_2.s3 (.fz [3] (.seq Ltake_2.s4 (.seq Ltake_2.s5 .skip)))))))
def Ltake_2.d : Df := ⟨[true, false], 6, Ltake_2.b⟩
def Ltake_2.N : List Str := ["_law_box_here", "_law_below", "_law_once", "_law_far_so", "_law_twice", "_law_drawn_here"]
/-- shown -/
abbrev P_shown.s0 : S := (.expr (.callp "check_full" (.cons (.var 0) (.cons (.var 1) .nil))))
abbrev P_shown.s1 : S := (.ret (.callp "shows" (.cons (.var 0) (.cons (.var 1) (.cons (.var 2) .nil)))))
abbrev P_shown.b : S := (.seq P_shown.s0 (.seq P_shown.s1 .skip))
def P_shown.d : Df := ⟨[false, false, false], 3, P_shown.b⟩
def P_shown.N : List Str := ["space", "row", "reason"]
/-- _law_divided -/
abbrev Ldivided.s0 : S := (.ret (.callp "_law_low_terms" (.cons (.op .idx (.cons (.var 0) (.cons (.k (.int 0)) .nil))) (.cons (.op .mul (.cons (.op .idx (.cons (.var 0) (.cons (.k (.int 1)) .nil))) (.cons (.var 1) .nil))) .nil))))
abbrev Ldivided.b : S := (.seq Ldivided.s0 .skip)
def Ldivided.d : Df := ⟨[false, false], 2, Ldivided.b⟩
def Ldivided.N : List Str := ["_law_one", "_law_number"]
/-- over -/
abbrev P_over.s0 : S := (.ret (.callp "lowest" (.cons (.op .idx (.cons (.var 0) (.cons (.k (.int 0)) .nil))) (.cons (.op .mul (.cons (.op .idx (.cons (.var 0) (.cons (.k (.int 1)) .nil))) (.cons (.var 1) .nil))) .nil))))
abbrev P_over.b : S := (.seq P_over.s0 .skip)
def P_over.d : Df := ⟨[false, false], 2, P_over.b⟩
def P_over.N : List Str := ["one", "number"]
end Mk
set_option maxHeartbeats 4000000
/-! Mk: the helpers that the laws share: draws. -/
namespace Mk
open PySem L2
section
variable {D : Defs} {cs : Cons} {fns : Tab}
theorem at_step {f : Str} {d : Df} (hd : D.lookup f = some d) : stepT D cs fns f = some (d.fn cs fns) := by unfold stepT; rw [hd]; rfl
structure Box where
  a : Int
  b : Int
  c : Int
def Box.m (x : Box) : M := .bx (.ls [.int x.a, .int x.b, .int x.c])
/-- it may be drawn from n times more -/
def Box.ok (x : Box) (n : Nat) : Prop := 0 ≤ x.a ∧ 0 ≤ x.c ∧ x.c + n ≤ 1099511627776
theorem Box.ok.mono {x : Box} {m n : Nat} (h : x.ok n) (hm : m ≤ n) : x.ok m := ⟨h.1, h.2.1, by have := h.2.2; omega⟩
theorem box_get (x : Box) : x.m = .bx (.ls [.int x.a, .int x.b, .int x.c]) := rfl
structure TakeOk (F : Fn) : Prop where
  mu : F.mu = [true, false]
  sem : ∀ {x : Box} {n : Nat} {k : Int}, x.ok (n + 1) → 0 < k → k < 1073741824 → ∃ (v : Int) (y : Box), F.sem [x.m, mt (.int k)] = some (mt (.int v), [some y.m, some (mt (.int k))]) ∧ 0 ≤ v ∧ v < k ∧ y.ok n
theorem take_ok : TakeOk (Ltake.d.fn cs fns) := ⟨rfl, by
  intro x n k h hk hk2
  obtain ⟨a, b, c⟩ := x
  obtain ⟨h1, h2, h3⟩ := h
  simp only at h1 h2 h3
  by_cases ha : 0 < a
  · refine ⟨a % k, ⟨a / k, b, c⟩, ?_, Int.emod_nonneg _ (by omega), Int.emod_lt_of_pos _ hk, Int.ediv_nonneg h1 (by omega), h2, by simp only; omega⟩
    simp [Df.fn, run, Ltake.d, Df.gc, Box.m, ha, ps_mod hk, ps_fdiv hk hk2]
  · obtain ⟨once, ho⟩ : ∃ once, once = ((b + 48271 * (c + 1)) * (39373 + (c + 1))) % 2147483647 := ⟨_, rfl⟩
    obtain ⟨far, hf⟩ : ∃ far, far = once % 40009 + 7 := ⟨_, rfl⟩
    obtain ⟨twice, ht⟩ : ∃ twice, twice = ((once + (c + 1) + b / 1000003) * far) % 2147483629 := ⟨_, rfl⟩
    have q1 : -18446744073709551616 < 39373 + (c + 1) ∧ 39373 + (c + 1) < 18446744073709551616 := by omega
    have q2 : -18446744073709551616 < far ∧ far < 18446744073709551616 := by omega
    refine ⟨(twice * 48271 + once) % 2147483587 / 64 % k, ⟨a, b, c + 1⟩, ?_, Int.emod_nonneg _ (by omega), Int.emod_lt_of_pos _ hk, h1, by show 0 ≤ c + 1; omega, by simp only; omega⟩
    have m1 := ps_mul2 (a := b + 48271 * (c + 1)) q1
    have m2 := ps_mul2 (a := once + (c + 1) + b / 1000003) q2
    have m3 := ps_mul1 (a := 48271) (b := c + 1) (by decide)
    have m4 := ps_mul2 (a := twice) (b := 48271) (by decide)
    simp [Df.fn, run, Ltake.d, Df.gc, Box.m, ha, ps_mod, ps_mod hk, ps_fdiv, m1, m2, m3, m4, ← ho, ← hf, ← ht]⟩
theorem ps_pow18 : primSem .pow [.int 10, .int 18] = some (mt (.int 1000000000000000000)) := by
  show (if (0 : Int) ≤ 18 ∧ (18 : Int) ≤ 1000000 ∧ (10 : Int).natAbs < 2 ^ 64 then ri ((10 : Int) ^ (18 : Int).toNat) else none) = _
  rw [if_pos (by decide)]
  rfl
/-- a def whose arguments stay -/
theorem val_of {fns : Tab} {f : Str} {F : Fn} {ts : List T} {m : M} {ρ : Slots} (h : fns f = some F) (hm : F.mu = List.replicate ts.length false) (e : F.sem (ts.map mt) = some (m, ρ)) : valOf fns f ts = some m := by
  unfold valOf
  rw [h, obd_ok, if_pos hm, e]
  rfl
def BoxOk (fns : Tab) : Prop := ∀ {ns : List Int} {k : Nat}, k < ns.length → k < 64 → ∃ x : Box, valOf fns "_law_box" [.lst (ns.map .int), .int k] = some x.m ∧ x.ok 1000000
theorem box_ok (hd : D.lookup ("_law_box" : Str) = some Lbox.d) : BoxOk (stepT D cs fns) := by
  intro ns k hk hk2
  obtain ⟨v, hv⟩ : ∃ v, v = ns[k] := ⟨_, rfl⟩
  obtain ⟨a, ha⟩ : ∃ a : Int, a = if v < 0 then -v else v := ⟨_, rfl⟩
  obtain ⟨c, hc⟩ : ∃ c : Int, c = if 1000000000000000000 ≤ a then 1 else 0 := ⟨_, rfl⟩
  have ha0 : 0 ≤ a := by rw [ha]; split <;> omega
  have hc0 : 0 ≤ c ∧ c ≤ 1 := by rw [hc]; split <;> omega
  refine ⟨⟨a * c, v % 2305843009213693951 + 39373 * k + 113, 0⟩, ?_, Int.mul_nonneg ha0 hc0.1, Int.le_refl 0, by show (0 : Int) + ((1000000 : Nat) : Int) ≤ 1099511627776; omega⟩
  have e1 : atI (ns.map T.int) (k : Int) = some (.int v) := by rw [atI_nat (by simpa using hk)]; simp [hv]
  have m1 := ps_mul2 (a := a) (b := c) (by omega)
  have m2 := ps_mul1 (a := 39373) (b := (k : Int)) (by decide)
  have m3 := ps_mod (a := v) (b := 2305843009213693951) (by decide)
  have hs : (3 : Nat) ≤ sizeLine := by decide
  rw [val_step hd rfl]
  simp [run, Lbox.d, Df.gc, Box.m, e1, m1, m2, m3, ps_pow18, hs, hk, ← ha, ← hc]
structure OfOk (F : Fn) : Prop where
  mu : F.mu = [true, false]
  sem : ∀ {x : Box} {n : Nat} {ts : List T}, x.ok (n + 1) → 0 < ts.length → ts.length < 1073741824 →
    ∃ (i : Nat) (hi : i < ts.length) (y : Box), F.sem [x.m, mt (.lst ts)] = some (mt ts[i], [some y.m, some (mt (.lst ts))]) ∧ y.ok n
theorem of_ok {F : Fn} (hF : fns "_law_take" = some F) (H : TakeOk F) : OfOk (Lof.d.fn cs fns) := ⟨rfl, by
  intro x n ts h h0 h1
  obtain ⟨v, y, e, v0, v1, oy⟩ := H.sem (k := (ts.length : Int)) h (by omega) (by omega)
  obtain ⟨i, rfl⟩ := Int.eq_ofNat_of_zero_le v0
  have hi : i < ts.length := by omega
  refine ⟨i, hi, y, ?_, oy⟩
  have ei : atI ts (i : Int) = some ts[i] := atI_nat hi
  simp [Df.fn, run, Lof.d, Df.gc, hF, H.mu, e, ei]⟩
end
end Mk
set_option maxHeartbeats 4000000
/-! Mk: the helpers that the laws share: lists, same. -/
namespace Mk
open PySem L2
mutual
/-- all tuples made lists -/
def T.li : T → T
  | .tup xs => .lst (T.lis xs)
  | .lst xs => .lst (T.lis xs)
  | x => x
def T.lis : List T → List T
  | [] => []
  | x :: xs => x.li :: T.lis xs
end
mutual
/-- built of None, bools, ints, texts, lists, tuples, at most n deep -/
def T.fl : Nat → T → Bool
  | _, .non => true
  | _, .bl _ => true
  | _, .int _ => true
  | _, .str _ => true
  | n + 1, .tup xs => T.fls n xs
  | n + 1, .lst xs => T.fls n xs
  | _, _ => false
def T.fls : Nat → List T → Bool
  | _, [] => true
  | n, x :: xs => x.fl n && T.fls n xs
end
theorem lis_map : ∀ xs : List T, T.lis xs = xs.map T.li
  | [] => rfl
  | x :: xs => by unfold T.lis; rw [lis_map xs]; rfl
theorem fls_iff {n : Nat} : ∀ {xs : List T}, T.fls n xs = true ↔ ∀ x ∈ xs, x.fl n = true
  | [] => by simp [T.fls]
  | y :: ys => by
    unfold T.fls
    rw [Bool.and_eq_true, fls_iff (xs := ys)]
    simp
@[simp] theorem li_non : T.li .non = .non := id rfl
@[simp] theorem li_bl (b : Bool) : T.li (.bl b) = .bl b := id rfl
@[simp] theorem li_int (b : Int) : T.li (.int b) = .int b := id rfl
@[simp] theorem li_str (b : Str) : T.li (.str b) = .str b := id rfl
@[simp] theorem li_tup (xs : List T) : T.li (.tup xs) = .lst (xs.map T.li) := by show T.lst (T.lis xs) = _; rw [lis_map]
@[simp] theorem li_lst (xs : List T) : T.li (.lst xs) = .lst (xs.map T.li) := by show T.lst (T.lis xs) = _; rw [lis_map]
@[simp] theorem fl_non (n : Nat) : T.fl n .non = true := by cases n <;> rfl
@[simp] theorem fl_bl (n : Nat) (b : Bool) : T.fl n (.bl b) = true := by cases n <;> rfl
@[simp] theorem fl_int (n : Nat) (b : Int) : T.fl n (.int b) = true := by cases n <;> rfl
@[simp] theorem fl_str (n : Nat) (b : Str) : T.fl n (.str b) = true := by cases n <;> rfl
@[simp] theorem fl_tup (n : Nat) (xs : List T) : T.fl (n + 1) (.tup xs) = true ↔ ∀ x ∈ xs, x.fl n = true := fls_iff
@[simp] theorem fl_lst (n : Nat) (xs : List T) : T.fl (n + 1) (.lst xs) = true ↔ ∀ x ∈ xs, x.fl n = true := fls_iff
theorem fl_mono : ∀ {n m : Nat} {x : T}, x.fl n = true → n ≤ m → x.fl m = true
  | n, m, .non, _, _ => fl_non m
  | n, m, .bl _, _, _ => fl_bl m _
  | n, m, .int _, _, _ => fl_int m _
  | n, m, .str _, _, _ => fl_str m _
  | 0, _, .tup _, h, _ => by cases h
  | 0, _, .lst _, h, _ => by cases h
  | n + 1, 0, .tup _, _, h => by omega
  | n + 1, 0, .lst _, _, h => by omega
  | n + 1, m + 1, .tup xs, h, hm => (fl_tup m xs).2 fun x hx => fl_mono ((fl_tup n xs).1 h x hx) (by omega)
  | n + 1, m + 1, .lst xs, h, hm => (fl_lst m xs).2 fun x hx => fl_mono ((fl_lst n xs).1 h x hx) (by omega)
  | 0, _, .rd _, h, _ => by cases h
  | 0, _, .dK _, h, _ => by cases h
  | 0, _, .dT _, h, _ => by cases h
  | n + 1, _, .rd _, h, _ => by cases h
  | n + 1, _, .dK _, h, _ => by cases h
  | n + 1, _, .dT _, h, _ => by cases h
def T.liM : T → M
  | .tup xs => .bx (.ls (xs.map T.li))
  | .lst xs => .bx (.ls (xs.map T.li))
  | x => mt x
@[simp] theorem liM_frz (x : T) : x.liM.frz = some x.li := by cases x <;> simp [T.liM] <;> rfl
section
variable {D : Defs} {cs : Cons} {fns : Tab}
def ListsOk (n : Nat) (fns : Tab) : Prop := ∀ x : T, x.fl n = true → valOf fns "_law_lists" [x] = some x.liM
theorem lists_ok (hd : D.lookup ("_law_lists" : Str) = some Llists.d) : ∀ {n : Nat} {fns : Tab}, (∀ k, n = k + 1 → ListsOk k fns) → ListsOk n (stepT D cs fns) := by
  intro n fns ih x h
  rw [val_step (d := Llists.d) hd rfl]
  have seq : ∀ {xs : List T}, (∀ k, n = k + 1 → ∀ x ∈ xs, x.fl k = true) → 0 < n → filterO (fun x => obd (valOf fns "_law_lists" [x]) fun x => obd x.frz fun x => some (some x)) xs = some (xs.map T.li) := by
    intro xs hx h0
    obtain ⟨k, rfl⟩ : ∃ k, n = k + 1 := ⟨n - 1, by omega⟩
    refine filterO_map_ok _ fun y hy => ?_
    rw [ih k rfl y (hx k rfl y hy), obd_ok, liM_frz, obd_ok]
  cases x with
  | non => simp [run, Llists.d, Df.gc, Ty.isA, T.liM]
  | bl b => simp [run, Llists.d, Df.gc, Ty.isA, T.liM]
  | int b => simp [run, Llists.d, Df.gc, Ty.isA, T.liM]
  | str b => simp [run, Llists.d, Df.gc, Ty.isA, T.liM]
  | tup xs =>
    have h0 : 0 < n := by cases n with | zero => cases h | succ n => omega
    have q := seq (xs := xs) (fun k e x hx => by subst e; exact (fl_tup k xs).1 h x hx) h0
    simp [run, Llists.d, Df.gc, Ty.isA, ev_compq, turnV_eq, q, T.liM]
  | lst xs =>
    have h0 : 0 < n := by cases n with | zero => cases h | succ n => omega
    have q := seq (xs := xs) (fun k e x hx => by subst e; exact (fl_lst k xs).1 h x hx) h0
    simp [run, Llists.d, Df.gc, Ty.isA, ev_compq, turnV_eq, q, T.liM]
  | _ => cases n <;> exact Bool.noConfusion (show false = true from h)
theorem bls_map : ∀ bs : List Bool, bls (bs.map .bl) = some bs
  | [] => rfl
  | b :: bs => by
    show (bls (bs.map .bl)).map (b :: ·) = _
    rw [bls_map bs]; rfl
@[simp] theorem ps_all (bs : List Bool) : primSem .all [.lst (bs.map .bl)] = some (mt (.bl (bs.all id))) := by
  show (bls (bs.map .bl)).bind _ = _
  rw [bls_map]; rfl
@[simp] theorem ps_any (bs : List Bool) : primSem .any [.lst (bs.map .bl)] = some (mt (.bl (bs.any id))) := by
  show (bls (bs.map .bl)).bind _ = _
  rw [bls_map]; rfl
theorem zipT_self : ∀ ts : List T, zipT ts ts = ts.map fun x => .tup [x, x]
  | [] => rfl
  | x :: ts => by unfold zipT; rw [zipT_self ts]; rfl
def SameOk (n : Nat) (fns : Tab) : Prop := ∀ x : T, x.fl n = true → valOf fns "_law_same" [x, x] = some (mt (.bl true))
theorem all_true {α : Type} {xs : List α} : primSem .all [.lst (xs.map fun _ => .bl true)] = some (mt (.bl true)) := by
  have e : (xs.map fun _ => T.bl true) = (xs.map fun _ => true).map T.bl := by simp [Function.comp_def]
  rw [e, ps_all]
  simp
theorem same_ok (hd : D.lookup ("_law_same" : Str) = some Lsame.d) : ∀ {n : Nat} {fns : Tab}, (∀ k, n = k + 1 → SameOk k fns) → SameOk n (stepT D cs fns) := by
  intro n fns ih x h
  rw [val_step (d := Lsame.d) hd rfl]
  have seq : ∀ {xs : List T}, (∀ k, n = k + 1 → ∀ x ∈ xs, x.fl k = true) → 0 < n → filterO (fun x => obd (valOf fns "_law_same" [x, x]) fun x => obd x.frz fun x => some (some x)) xs = some (xs.map fun _ => .bl true) := by
    intro xs hx h0
    obtain ⟨k, rfl⟩ : ∃ k, n = k + 1 := ⟨n - 1, by omega⟩
    refine filterO_map_ok _ fun y hy => ?_
    rw [ih k rfl y (hx k rfl y hy), obd_ok, frz_bx, frz_fz, obd_ok]
  cases x with
  | non => simp [run, Lsame.d, Df.gc, Ty.isA, ps_eq, tEq]
  | bl b => simp [run, Lsame.d, Df.gc, Ty.isA, ps_eq, tEq]
  | int b => simp [run, Lsame.d, Df.gc, Ty.isA, ps_eq, tEq]
  | str b => simp [run, Lsame.d, Df.gc, Ty.isA, ps_eq, tEq]
  | tup xs =>
    have h0 : 0 < n := by cases n with | zero => cases h | succ n => omega
    have q := seq (xs := xs) (fun k e x hx => by subst e; exact (fl_tup k xs).1 h x hx) h0
    simp [run, Lsame.d, Df.gc, Ty.isA, ev_compq, turnV_eq, zipT_self, q, all_true]
  | lst xs =>
    have h0 : 0 < n := by cases n with | zero => cases h | succ n => omega
    have q := seq (xs := xs) (fun k e x hx => by subst e; exact (fl_lst k xs).1 h x hx) h0
    simp [run, Lsame.d, Df.gc, Ty.isA, ev_compq, turnV_eq, zipT_self, q, all_true]
  | _ => cases n <;> exact Bool.noConfusion (show false = true from h)
end
end Mk
set_option maxHeartbeats 4000000
/-! Mk: the helpers that the laws share: rows, edges, cells. -/
namespace Mk
open PySem L2
theorem fn_sem (d : Df) (cs : Cons) (fns : Tab) (ms : List M) : (d.fn cs fns).sem ms = run (d.gc cs fns) d ms := rfl
theorem forL_run2 {α : Type} {f : T → Slots → Option (Out × Slots)} {mk : α → T} (R : List α → Slots → Prop) {all : List α} : ∀ {xs done : List α} {ρ : Slots}, done ++ xs = all → R done ρ → (∀ done a rest ρ, all = done ++ a :: rest → R done ρ → ∃ o ρ', f (mk a) ρ = some (o, ρ') ∧ (o = .next ∨ o = .cont) ∧ R (done ++ [a]) ρ') →
    ∃ ρ', forL f (xs.map mk) ρ = some (.next, ρ') ∧ R all ρ'
  | [], done, ρ, e, r, _ => ⟨ρ, rfl, by rw [List.append_nil] at e; rw [← e]; exact r⟩
  | a :: xs, done, ρ, e, r, h => by
    obtain ⟨o, ρ1, h1, ho, r1⟩ := h done a xs ρ e.symm r
    obtain ⟨ρ2, h2, r2⟩ := forL_run2 R (xs := xs) (by rw [← e]; simp) r1 h
    refine ⟨ρ2, ?_, r2⟩
    rw [List.map_cons]
    unfold forL
    rw [h1, bnd_ok]
    rcases ho with rfl | rfl <;> exact h2
/-- a label -/
structure Lab where
  n : Str
  w : Int
  s : Int
  t : Int
def Lab.m (b : Bool) (l : Lab) : T := .sq b [.str l.n, .int l.w, .int l.s, .int l.t]
def rowT (b : Bool) (row : List Lab) : T := .sq b (row.map (Lab.m b))
def spT (b : Bool) : Option (Int × Int) → T
  | none => .non
  | some (l, h) => .sq b [.int l, .int h]
@[simp] theorem spT_none (b : Bool) : spT b none = .non := id rfl
@[simp] theorem spT_some (b : Bool) (p : Int × Int) : spT b (some p) = .sq b [.int p.1, .int p.2] := id rfl
@[simp] theorem lab_li (b : Bool) (l : Lab) : (l.m b).li = l.m true := by cases b <;> simp [Lab.m]
@[simp] theorem row_li (b : Bool) (row : List Lab) : (rowT b row).li = rowT true row := by cases b <;> simp [rowT, Function.comp_def]
@[simp] theorem sp_li (b : Bool) (s : Option (Int × Int)) : (spT b s).li = spT true s := by cases s with | none => rfl | some p => cases b <;> simp
@[simp] theorem fl_sq (n : Nat) (b : Bool) (xs : List T) : T.fl (n + 1) (.sq b xs) = true ↔ ∀ x ∈ xs, x.fl n = true := by cases b <;> simp
@[simp] theorem lab_fl (b : Bool) (n : Nat) (l : Lab) : (l.m b).fl (n + 1) = true := by simp [Lab.m]
@[simp] theorem row_fl (b : Bool) (n : Nat) (row : List Lab) : (rowT b row).fl (n + 2) = true := by
  unfold rowT
  rw [fl_sq]
  intro x hx
  obtain ⟨l, _, rfl⟩ := List.mem_map.mp hx
  exact lab_fl b n l
@[simp] theorem sp_fl (b : Bool) (n : Nat) (s : Option (Int × Int)) : (spT b s).fl (n + 1) = true := by cases s <;> simp
def names12 : List Str := ["a", "b", "c", "d", "e", "f", "g", "ab", "z", "k", "m", "x"]
theorem names12_nodup : names12.Nodup := by decide +kernel
def Lab.ok (w : Int) (l : Lab) : Prop := l.n ∈ names12 ∧ -3 ≤ l.w ∧ l.w < w - 3 ∧ 1 ≤ l.s ∧ l.s ≤ 5 ∧ 1 ≤ l.t ∧ l.t ≤ 3
def RowOk (w : Int) (row : List Lab) : Prop := (∀ l ∈ row, l.ok w) ∧ (row.map (·.n)).Nodup
theorem ints_of {ts : List T} {P : Int → Prop} : (∀ t ∈ ts, ∃ v, t = .int v ∧ P v) → ∃ vs : List Int, ts = vs.map .int ∧ ∀ v ∈ vs, P v := by
  induction ts with
  | nil => exact fun _ => ⟨[], rfl, fun _ h => by cases h⟩
  | cons t ts ih =>
    intro h
    obtain ⟨vs, e, hv⟩ := ih fun u hu => h u (List.mem_cons_of_mem _ hu)
    obtain ⟨v, rfl, p⟩ := h t List.mem_cons_self
    refine ⟨v :: vs, by rw [e]; rfl, fun u hu => ?_⟩
    rcases List.mem_cons.mp hu with rfl | hu
    · exact p
    · exact hv u hu
theorem intsT_map : ∀ vs : List Int, intsT (vs.map .int) = some vs
  | [] => rfl
  | v :: vs => by rw [List.map_cons]; unfold intsT; rw [intsT_map vs]; rfl
theorem ps_sorted {vs : List Int} (h : vs.length < 64) : primSem .sorted [.lst (vs.map .int)] = some (.bx (.ls ((sortI vs).map .int))) := by
  show (intsT (vs.map .int)).bind _ = _
  rw [intsT_map]
  exact if_pos h
@[simp] theorem ps_sum (vs : List Int) : primSem .sum [.lst (vs.map .int)] = some (mt (.int vs.sum)) := by
  show (intsT (vs.map .int)).bind _ = _
  rw [intsT_map]; rfl
theorem seq_nat {i n : Nat} (h : i < n) : seqIndex? (i : Int) n = some i := (ixN_seq (ixN_nat h)).1
theorem evI_range {G : Gc} {a : E} {ρ ρ' : Slots} {n : Nat} (h : ev G a ρ = some (mt (.int (n : Int)), ρ')) (hn : n ≤ 1000000) : evI G (.range1 a) ρ = some ((List.range n).map (fun (i : Nat) => T.int (i : Int)), ρ') := by
  rw [evI_r1, h, f1_ok, frz_bx, obd_ok, bnd_ok, frz_fz, run_int_of, obd_ok, rangeT_nat hn, obd_ok]
theorem erase_map {α β : Type} (f : α → β) : ∀ (xs : List α) (i : Nat), (xs.map f).eraseIdx i = (xs.eraseIdx i).map f
  | [], _ => rfl
  | x :: xs, 0 => rfl
  | x :: xs, i + 1 => by simp [erase_map f xs i]
theorem erase_nodup {α : Type} : ∀ {xs : List α} {i : Nat} (hi : i < xs.length), xs.Nodup → xs[i] ∉ xs.eraseIdx i
  | x :: xs, 0, _, h => (List.nodup_cons.mp h).1
  | x :: xs, i + 1, hi, h => by
    obtain ⟨h1, h2⟩ := List.nodup_cons.mp h
    have hi' : i < xs.length := by simpa using hi
    rw [List.eraseIdx_cons_succ, List.getElem_cons_succ, List.mem_cons]
    rintro (e | e)
    · exact h1 (e ▸ List.getElem_mem hi')
    · exact erase_nodup hi' h2 e
section
variable {D : Defs} {cs : Cons} {fns : Tab}
structure LabelsOk (F : Fn) : Prop where
  mu : F.mu = [true, false, false]
  sem : ∀ {x : Box} {n m : Nat} {w : Int}, x.ok (n + (1 + 4 * m)) → m ≤ 12 → 0 < w → w < 1073741824 →
    ∃ (row : List Lab) (y : Box), F.sem [x.m, mt (.int m), mt (.int w)] = some (mt (rowT false row), [some y.m, some (mt (.int m)), some (mt (.int w))]) ∧ y.ok n ∧ row.length = m ∧ RowOk w row
theorem labels_ok {F : Fn} (hF : fns "_law_take" = some F) (H : TakeOk F) : LabelsOk (Llabels.d.fn cs fns) := ⟨rfl, by
  intro x n m w h hm hw hw2
  have mu := H.mu
  obtain ⟨nm, hnm⟩ : ∃ nm : M, nm = .bx (.ls (names12.map .str)) := ⟨_, rfl⟩
  obtain ⟨G, hG⟩ : ∃ G : Gc, G = Llabels.d.gc cs fns := ⟨_, rfl⟩
  have hGf : G.fns "_law_take" = some F := by rw [hG]; exact hF
  have hGp : G.pin = [0] := by rw [hG]; rfl
  -- the wishes
  have wishes : ∃ (vs : List Int) (y : Box), ex G Llabels.s1 [some x.m, some (mt (.int m)), some (mt (.int w)), none, none, some nm, some (.bx (.ls [])), none] =
      some (.next, [some y.m, some (mt (.int m)), some (mt (.int w)), some (.bx (.ls (vs.map .int))), none, some nm, some (.bx (.ls [])), none]) ∧ vs.length = m ∧ (∀ v ∈ vs, 0 ≤ v ∧ v < w) ∧ y.ok (n + (1 + 3 * m)) := by
    have hI : evI G (.range1 (.var 1)) [some x.m, some (mt (.int m)), some (mt (.int w)), none, none, some nm, some (.bx (.ls [])), none] = some ((List.range m).map (fun (i : Nat) => T.int (i : Int)), [some x.m, some (mt (.int m)), some (mt (.int w)), none, none, some nm, some (.bx (.ls [])), none]) :=
      evI_range (by simp) (by omega)
    obtain ⟨ts, ρ', e1, e2, e3, y, oy, v7, e4⟩ := compL_st (own := [7]) (f := turnF G (.nm 7) .nil (.call "_law_take" (.cons (.var 0) (.cons (.var 2) .nil)))) (Q := fun t => ∃ v, t = .int v ∧ (0 ≤ v ∧ v < w))
      (I := fun k ρ => ∃ y : Box, y.ok k ∧ ∃ v7, ρ = [some y.m, some (mt (.int m)), some (mt (.int w)), none, none, some nm, some (.bx (.ls [])), v7]) 1 (xs := (List.range m).map fun (i : Nat) => T.int (i : Int)) (n := n + (1 + 3 * m)) (ρ := [some x.m, some (mt (.int m)), some (mt (.int w)), none, none, some nm, some (.bx (.ls [])), none]) (by
        rintro t ht k ρ ⟨y, oy, v7, rfl⟩
        obtain ⟨v, z, e, v0, v1, oz⟩ := H.sem oy hw hw2
        refine ⟨.int v, [some z.m, some (mt (.int m)), some (mt (.int w)), none, none, some nm, some (.bx (.ls [])), some (mt t)], ?_, ⟨v, rfl, v0, v1⟩, z, oz, _, rfl⟩
        simp [turnF, hGf, mu, e, hGp]) ⟨x, by refine h.mono ?_; rw [List.length_map, List.length_range]; omega, none, rfl⟩
    obtain ⟨vs, rfl, hv⟩ := ints_of e3
    refine ⟨vs, y, ?_, by simpa using e2, hv, oy⟩
    rw [ex_asg, ev_comp, hI, bnd_ok]
    show bnd (bnd (compL [7] (turnF _ _ _ _) _ _) _) _ = _
    rw [e1, bnd_ok, e4]
    simp [hGp]
  -- one label
  have turn : ∀ (y : Box) (k : Nat) (ns : List Str) (row : List Lab) (c : Int) (v3 v7 : Option M), y.ok (k + 3) → 0 < ns.length → ns.length ≤ 12 → row.length ≤ 100 → ∃ (z : Box) (i : Nat) (hi : i < ns.length) (s t : Int),
      ex G Llabels.s3bB [some y.m, some (mt (.int m)), some (mt (.int w)), v3, some (mt (.int c)), some (.bx (.ls (ns.map .str))), some (.bx (.ls (row.map (Lab.m false)))), v7] =
        some (.next, [some z.m, some (mt (.int m)), some (mt (.int w)), v3, none, some (.bx (.ls ((ns.eraseIdx i).map .str))), some (.bx (.ls ((row ++ [Lab.mk ns[i] (c - 3) s t]).map (Lab.m false)))), v7]) ∧ z.ok k ∧ 1 ≤ s ∧ s ≤ 5 ∧ 1 ≤ t ∧ t ≤ 3 := by
    intro y k ns row c v3 v7 oy h0 h12 hr
    obtain ⟨a, y1, e1, a0, a1, o1⟩ := H.sem (n := k + 2) (k := (ns.length : Int)) oy (by omega) (by omega)
    obtain ⟨b, y2, e2, b0, b1, o2⟩ := H.sem (n := k + 1) (k := 5) o1 (by decide) (by decide)
    obtain ⟨d, y3, e3, d0, d1, o3⟩ := H.sem (n := k) (k := 3) o2 (by decide) (by decide)
    obtain ⟨i, rfl⟩ := Int.eq_ofNat_of_zero_le a0
    have hi : i < ns.length := by omega
    have es := seq_nat hi
    have hz4 : (4 : Nat) ≤ sizeLine := by decide
    have hzr : row.length < sizeLine := Nat.lt_of_le_of_lt hr (by decide)
    refine ⟨y3, i, hi, 1 + b, 1 + d, ?_, o3, by omega, by omega, by omega, by omega⟩
    have hp : ev G (.pop 5 (.call "_law_take" (.cons (.var 0) (.cons (.op .len (.cons (.var 5) .nil)) .nil)))) [some y.m, some (mt (.int m)), some (mt (.int w)), v3, some (mt (.int c)), some (.bx (.ls (ns.map .str))), some (.bx (.ls (row.map (Lab.m false)))), v7] =
        some (mt (.str ns[i]), [some y1.m, some (mt (.int m)), some (mt (.int w)), v3, some (mt (.int c)), some (.bx (.ls ((ns.eraseIdx i).map .str))), some (.bx (.ls (row.map (Lab.m false)))), v7]) := by
      rw [ev_pop_ok (ys := ns.map .str) (xs := ns.map .str) (k := (i : Int)) (j := i) (y := .str ns[i]) (ρ' := [some y1.m, some (mt (.int m)), some (mt (.int w)), v3, some (mt (.int c)), some (.bx (.ls (ns.map .str))), some (.bx (.ls (row.map (Lab.m false)))), v7]) rfl (by simp [hGf, mu, e1]) rfl (by omega) (by rw [List.length_map]; exact es) (by simp [hi]), erase_map]
      rfl
    have he : f1 (ev G (.tup (.cons (.pop 5 (.call "_law_take" (.cons (.var 0) (.cons (.op .len (.cons (.var 5) .nil)) .nil)))) (.cons (.op .sub (.cons (.var 4) (.cons (.k (.int 3)) .nil))) (.cons (.op .add (.cons (.k (.int 1)) (.cons (.call "_law_take" (.cons (.var 0) (.cons (.k (.int 5)) .nil))) .nil))) (.cons (.op .add (.cons (.k (.int 1)) (.cons (.call "_law_take" (.cons (.var 0) (.cons (.k (.int 3)) .nil))) .nil))) .nil))))) [some y.m, some (mt (.int m)), some (mt (.int w)), v3, some (mt (.int c)), some (.bx (.ls (ns.map .str))), some (.bx (.ls (row.map (Lab.m false)))), v7]) =
        some (.tup [.str ns[i], .int (c - 3), .int (1 + b), .int (1 + d)], [some y3.m, some (mt (.int m)), some (mt (.int w)), v3, some (mt (.int c)), some (.bx (.ls ((ns.eraseIdx i).map .str))), some (.bx (.ls (row.map (Lab.m false)))), v7]) := by
      simp [hGf, mu, e2, e3, hp, hz4]
    rw [ex_seq, ex_app_ok (ys := row.map (Lab.m false)) (xs := row.map (Lab.m false)) rfl he rfl (by rw [List.length_map]; exact hzr), bnd_ok]
    simp [Lab.m]
  obtain ⟨vs, y, ew, hv, hvw, oy⟩ := wishes
  obtain ⟨q, z, eq, q0, q1, oz⟩ := H.sem (n := n + 3 * m) (k := 4) (oy.mono (by omega)) (by decide) (by decide)
  obtain ⟨us, hus⟩ : ∃ us : List Int, us = if 0 < q then sortI vs else vs := ⟨_, rfl⟩
  have hup : us.Perm vs := by rw [hus]; split <;> first | exact sortI_perm vs | exact .refl _
  have hul : us.length = m := hup.length_eq.trans hv
  have huw : ∀ v ∈ us, 0 ≤ v ∧ v < w := fun v hv => hvw v (hup.mem_iff.mp hv)
  have loop : ∃ ρ', ex G Llabels.s3 [some z.m, some (mt (.int m)), some (mt (.int w)), some (mt (.lst (us.map .int))), none, some nm, some (.bx (.ls [])), none] = some (.next, ρ') ∧
      ∃ (y : Box) (row : List Lab) (ns : List Str), y.ok n ∧ row.length = m ∧ RowOk w row ∧ ρ' = [some y.m, some (mt (.int m)), some (mt (.int w)), some (mt (.lst (us.map .int))), none, some (.bx (.ls (ns.map .str))), some (.bx (.ls (row.map (Lab.m false)))), none] := by
    have hI : evI G (.seq (.var 3)) [some z.m, some (mt (.int m)), some (mt (.int w)), some (mt (.lst (us.map .int))), none, some nm, some (.bx (.ls [])), none] = some (us.map .int, [some z.m, some (mt (.int m)), some (mt (.int w)), some (mt (.lst (us.map .int))), none, some nm, some (.bx (.ls [])), none]) := by
      simp
    rw [ex_for, hI, bnd_ok, hnm]
    obtain ⟨ρ', e1, y, row, ns, o1, o2, o3, o4, o5, o6, o7, o8⟩ := forL_run2 (mk := fun v : Int => T.int v) (f := fun x ρ => obd ((Tg.nm 4).store G.pin x ρ) fun ρ => ex G Llabels.s3bB ρ)
      (fun done ρ => ∃ (y : Box) (row : List Lab) (ns : List Str), y.ok (n + 3 * (m - done.length)) ∧ row.length = done.length ∧ ns.length + done.length = 12 ∧ RowOk w row ∧ ns.Nodup ∧ (∀ n ∈ ns, n ∈ names12) ∧ (∀ l ∈ row, l.n ∉ ns) ∧ ρ = [some y.m, some (mt (.int m)), some (mt (.int w)), some (mt (.lst (us.map .int))), none, some (.bx (.ls (ns.map .str))), some (.bx (.ls (row.map (Lab.m false)))), none])
      (all := us) (xs := us) (done := []) rfl ⟨z, [], names12, by simpa using oz, rfl, rfl, ⟨fun _ h => (by cases h), .nil⟩, names12_nodup, fun _ h => h, fun _ h => (by cases h), rfl⟩ (by
        rintro done c rest ρ he ⟨y, row, ns, oy, hr, hn12, hok, hnd, hns, hdis, rfl⟩
        have hd : done.length + (rest.length + 1) = m := by rw [← hul, he, List.length_append, List.length_cons]
        have hc := huw c (by rw [he]; simp)
        obtain ⟨y', i, hi, s, t, e, oy', s1, s5, t1, t3⟩ := turn y (n + 3 * (m - (done.length + 1))) ns row c (some (mt (.lst (us.map .int)))) none (oy.mono (by omega)) (by omega) (by omega) (by omega)
        refine ⟨.next, _, ?_, .inl rfl, y', row ++ [Lab.mk ns[i] (c - 3) s t], ns.eraseIdx i, by rw [List.length_append]; exact oy', by simp [hr], by rw [List.length_append, List.length_singleton, List.length_eraseIdx, if_pos hi]; omega, ⟨fun u hu => ?_, ?_⟩, hnd.sublist (List.eraseIdx_sublist ..), fun n hn => hns n ((List.eraseIdx_sublist ..).subset hn), fun u hu => ?_, rfl⟩
        · rw [st_nm, if_pos ⟨by simp, by rw [hGp]; decide⟩, obd_ok]
          exact e
        · rcases List.mem_append.mp hu with h | h
          · exact hok.1 u h
          · rw [List.mem_singleton.mp h]
            exact ⟨hns _ (List.getElem_mem hi), by show -3 ≤ c - 3; omega, by show c - 3 < w - 3; omega, s1, s5, t1, t3⟩
        · rw [List.map_append, List.nodup_append]
          refine ⟨hok.2, by simp, ?_⟩
          rintro a ha b hb rfl
          simp at hb
          obtain ⟨u, hu, rfl⟩ := List.mem_map.mp ha
          exact hdis u hu (hb ▸ List.getElem_mem hi)
        · rcases List.mem_append.mp hu with h | h
          · exact fun z => hdis u h ((List.eraseIdx_sublist ..).subset z)
          · rw [List.mem_singleton.mp h]
            exact erase_nodup hi hnd)
    exact ⟨ρ', e1, y, row, ns, by simpa [hul] using o1, by rw [o2, hul], o4, o8⟩
  obtain ⟨ρ', el, y', row, ns, oy', hrl, hok, rfl⟩ := loop
  refine ⟨row, y', ?_, oy', hrl, hok⟩
  have hpar : ex G Llabels.s0 [some x.m, some (mt (.int m)), some (mt (.int w)), none, none, none, none, none] = some (.next, [some x.m, some (mt (.int m)), some (mt (.int w)), none, none, some nm, some (.bx (.ls [])), none]) := by
    have h12 : (12 : Nat) ≤ sizeLine := by decide
    simp [hnm, names12, h12, hGp]
  have hifs : ∃ m3 : M, ex G Llabels.s2 [some y.m, some (mt (.int m)), some (mt (.int w)), some (mt (.lst (vs.map .int))), none, some nm, some (.bx (.ls [])), none] = some (.next, [some z.m, some (mt (.int m)), some (mt (.int w)), some m3, none, some nm, some (.bx (.ls [])), none]) ∧ (m3 = mt (.lst (us.map .int)) ∨ m3 = .bx (.ls (us.map .int))) := by
    have hs := ps_sorted (vs := vs) (by omega)
    by_cases hq : 0 < q
    · exact ⟨.bx (.ls (us.map .int)), by simp [hGf, mu, eq, hq, hus, hs, hGp], .inr rfl⟩
    · exact ⟨mt (.lst (us.map .int)), by simp [hGf, mu, eq, hq, hus, hGp], .inl rfl⟩
  obtain ⟨m3, hifs, hm3⟩ := hifs
  rw [fn_sem, ← hG]
  unfold run
  rw [show Llabels.d.body = Llabels.b from rfl]
  rw [show ([x.m, mt (.int m), mt (.int w)] : List M).map some ++ List.replicate (Llabels.d.n - ([x.m, mt (.int m), mt (.int w)] : List M).length) none = [some x.m, some (mt (.int m)), some (mt (.int w)), none, none, none, none, none] from rfl]
  rw [ex_seq, hpar, bnd_ok, ex_seq, ew, bnd_ok]
  simp only [ex_fz, frzS_c, frzS_n, List.getElem?_cons_succ, List.getElem?_cons_zero, List.set_cons_succ, List.set_cons_zero, frz_ls]
  rw [ex_seq, hifs, bnd_ok]
  have h3 : frzS [3] [some z.m, some (mt (.int m)), some (mt (.int w)), some m3, none, some nm, some (.bx (.ls [])), none] = [some z.m, some (mt (.int m)), some (mt (.int w)), some (mt (.lst (us.map .int))), none, some nm, some (.bx (.ls [])), none] := by
    rcases hm3 with rfl | rfl <;> simp
  simp only []
  rw [ex_fz, h3, ex_seq, el, bnd_ok]
  simp [Llabels.d, rowT]⟩
def total (row : List Lab) : Int := (row.map (·.s)).sum
def TotalOk (fns : Tab) : Prop := ∀ (b : Bool) (row : List Lab), valOf fns "_law_total" [rowT b row] = some (mt (.int (total row)))
theorem total_ok (hd : D.lookup ("_law_total" : Str) = some Ltotal.d) : TotalOk (stepT D cs fns) := by
  intro b row
  rw [val_step (d := Ltotal.d) hd rfl]
  have e := ps_sum (row.map (·.s))
  rw [List.map_map] at e
  simp [run, Ltotal.d, Df.gc, ev_compq, turnV_eq, rowT, Lab.m]
  simp [Function.comp_def] at e
  simp [e, total]
end
end Mk
set_option maxHeartbeats 4000000
/-! Mk: the helpers that the laws share: edges, cells, law. -/
namespace Mk
open PySem L2
section
variable {D : Defs} {cs : Cons} {fns : Tab}
def Fits (row : List Lab) : Option (Int × Int) → Prop
  | none => True
  | some (l, h) => -6 ≤ l ∧ l ≤ 5 ∧ total row ≤ h - l ∧ h - l ≤ total row + 9
structure EdgesOk (F : Fn) : Prop where
  mu : F.mu = [true, false]
  sem : ∀ {x : Box} {n : Nat} (row : List Lab), x.ok (n + 3) →
    ∃ (sp : Option (Int × Int)) (y : Box), F.sem [x.m, mt (rowT false row)] = some (mt (spT false sp), [some y.m, some (mt (rowT false row))]) ∧ y.ok n ∧ Fits row sp
theorem edges_ok {F F2 : Fn} (hF : fns "_law_take" = some F) (H : TakeOk F) (hF2 : fns "_law_of" = some F2) (H2 : OfOk F2) (HT : TotalOk fns) : EdgesOk (Ledges.d.fn cs fns) := ⟨rfl, by
  intro x n row h
  have mu := H.mu
  have mu2 := H2.mu
  obtain ⟨a, y1, e1, a0, a1, o1⟩ := H.sem (n := n + 2) (k := 2) h (by decide) (by decide)
  have tot := HT false row
  rw [fn_sem]
  by_cases ha : a = 0
  · refine ⟨none, y1, ?_, o1.mono (by omega), trivial⟩
    simp [run, Ledges.d, Df.gc, hF, mu, e1, ha]
  · obtain ⟨l, y2, e2, l0, l1, o2⟩ := H.sem (n := n + 1) (k := 12) o1 (by decide) (by decide)
    obtain ⟨i, hi, y3, e3, o3⟩ := H2.sem (n := n) (ts := [.int 0, .int 1, .int 2, .int 5, .int 9]) o2 (by decide) (by decide)
    obtain ⟨v, hv, v0, v9⟩ : ∃ v : Int, ([.int 0, .int 1, .int 2, .int 5, .int 9] : List T)[i] = .int v ∧ 0 ≤ v ∧ v ≤ 9 := by
      have : i < 5 := hi
      rcases i with _ | _ | _ | _ | _ | i <;> first | exact ⟨_, rfl, by decide, by decide⟩ | omega
    rw [hv] at e3
    have h5 : (5 : Nat) ≤ sizeLine := by decide
    have h2 : (2 : Nat) ≤ sizeLine := by decide
    refine ⟨some (l - 6, l - 6 + total row + v), y3, ?_, o3, by omega, by omega, by omega, by omega⟩
    simp [run, Ledges.d, Df.gc, hF, hF2, mu, mu2, e1, e2, e3, ha, tot, h5, h2]⟩
theorem cut_to {α : Type} (xs : List α) (m : Nat) : cutT xs none (some (m : Int)) = xs.take m := by
  unfold cutT
  rw [HT.sIx_none, HT.sIx_nat, List.drop_zero, Nat.sub_zero]
  rcases Nat.le_total m xs.length with h | h
  · rw [Nat.min_eq_left h]
  · rw [Nat.min_eq_right h, List.take_length, List.take_of_length_le h]
theorem cut_from {α : Type} (xs : List α) (m : Nat) : cutT xs (some (m : Int)) none = xs.drop m := by
  unfold cutT
  rw [HT.sIx_none, HT.sIx_nat]
  rcases Nat.le_total m xs.length with h | h
  · rw [Nat.min_eq_left h, List.take_of_length_le (by rw [List.length_drop]; omega)]
  · rw [Nat.min_eq_right h, Nat.sub_self, List.drop_eq_nil_of_le h, List.drop_eq_nil_of_le (Nat.le_refl _)]; rfl
theorem cut_both {α : Type} (xs : List α) (m n : Nat) (h : m ≤ n) : cutT xs (some (m : Int)) (some (n : Int)) = (xs.drop m).take (n - m) := by
  unfold cutT
  rw [HT.sIx_nat, HT.sIx_nat]
  rcases Nat.le_total m xs.length with h1 | h1
  · rw [Nat.min_eq_left h1]
    rcases Nat.le_total n xs.length with h2 | h2
    · rw [Nat.min_eq_left h2]
    · rw [Nat.min_eq_right h2, List.take_of_length_le (by rw [List.length_drop]; omega), List.take_of_length_le (by rw [List.length_drop]; omega)]
  · rw [Nat.min_eq_right h1, Nat.min_eq_right (Nat.le_trans h1 h), Nat.sub_self, List.drop_eq_nil_of_le h1, List.drop_eq_nil_of_le (Nat.le_refl _)]; simp
@[simp] theorem sl_rd (ns : List Int) (lo hi : Option Int) : pSlice (.rd ns) lo hi = some (.bx (.ls ((cutT ns lo hi).map .int))) := id rfl
theorem enumT_map {α : Type} (f : α → T) : ∀ (xs : List α) (i : Nat), enumT i (xs.map f) = (xs.zipIdx i).map fun p => .tup [.int (p.2 : Nat), f p.1]
  | [], _ => rfl
  | x :: xs, i => by
    rw [List.map_cons]
    unfold enumT
    rw [enumT_map f xs (i + 1), List.zipIdx_cons, List.map_cons]
def CellsOk (fns : Tab) : Prop := ∀ {ns : List Int} {m : Nat}, 0 < m → m ≤ 63 → ∃ ys : List Int, valOf fns "_law_cells" [.rd ns, .int (m : Int)] = some (.bx (.ls (ys.map .int))) ∧ 0 < ys.length ∧ ys.length ≤ m
theorem cells_ok (hd : D.lookup ("_law_cells" : Str) = some Lcells.d) : CellsOk (stepT D cs fns) := by
  intro ns m h0 h1
  obtain ⟨ys, hy⟩ : ∃ ys : List Int, ys = if ns = [] then [0] else ns.take m := ⟨_, rfl⟩
  have hl : 0 < ys.length ∧ ys.length ≤ m ∧ (m < ns.length → ys.length = m) := by
    rw [hy]
    split
    · rename_i e; subst e; simp; omega
    · rename_i e
      have := List.length_pos_iff.mpr e
      rw [List.length_take]; omega
  obtain ⟨G, hG⟩ : ∃ G : Gc, G = Lcells.d.gc cs fns := ⟨_, rfl⟩
  have hGp : G.pin = [] := by rw [hG]; rfl
  have first : ex G Lcells.s0 [some (mt (.rd ns)), some (mt (.int m)), none, none, none, none] = some (.next, [some (mt (.rd ns)), some (mt (.int m)), some (.bx (.ls (ys.map .int))), none, none, none]) := by
    have c1 := cut_to ns m
    have hs : (1 : Nat) ≤ sizeLine := by decide
    by_cases e : ns = []
    · subst e
      simp [c1, hy, hGp, hs]
    · have hp := List.length_pos_iff.mpr e
      have e2 : ns.take m ≠ [] := List.ne_nil_of_length_pos (by rw [List.length_take]; omega)
      simp [c1, hy, e, hGp]
      simp [show m ≠ 0 by omega]
  have loop : ∃ ρ', ex G Lcells.s1 [some (mt (.rd ns)), some (mt (.int m)), some (.bx (.ls (ys.map .int))), none, none, none] = some (.next, ρ') ∧
      ∃ (zs : List Int), zs.length = ys.length ∧ ρ' = [some (mt (.rd ns)), some (mt (.int m)), some (.bx (.ls (zs.map .int))), none, none, none] := by
    have c1 : cutT ns (some (m : Int)) (some 63) = (ns.drop m).take (63 - m) := by
      rw [show (63 : Int) = ((63 : Nat) : Int) from rfl, cut_both _ _ _ h1]
    have c2 : enumT 0 (((ns.drop m).take (63 - m)).map .int) = (((ns.drop m).take (63 - m)).zipIdx 0).map fun p => .tup [.int (p.2 : Nat), .int p.1] := enumT_map _ _ _
    have hI : evI G (.enum (.sl (.var 0) (.some (.var 1)) (.some (.k (.int 63))))) [some (mt (.rd ns)), some (mt (.int m)), some (.bx (.ls (ys.map .int))), none, none, none] =
        some ((((ns.drop m).take (63 - m)).zipIdx 0).map fun p => .tup [.int (p.2 : Nat), .int p.1], [some (mt (.rd ns)), some (mt (.int m)), some (.bx (.ls (ys.map .int))), none, none, none]) := by
      simp [c1, c2, -List.map_take, -List.map_drop]
    rw [ex_for, hI, bnd_ok]
    obtain ⟨ρ', e1, zs, e2, e3⟩ := forL_run (mk := fun p : Int × Nat => T.tup [.int (p.2 : Nat), .int p.1]) (f := fun x ρ => obd ((Tg.t2 (.nm 3) (.nm 4)).store G.pin x ρ) fun ρ => ex G Lcells.s1bB ρ)
      (fun _ ρ => ∃ (zs : List Int), zs.length = ys.length ∧ ρ = [some (mt (.rd ns)), some (mt (.int m)), some (.bx (.ls (zs.map .int))), none, none, none]) (xs := ((ns.drop m).take (63 - m)).zipIdx 0) (done := []) ⟨ys, rfl, rfl⟩ (by
        rintro done ⟨c, i⟩ ρ ha ⟨zs, hz, rfl⟩
        have hi : i < 63 ∧ m < ns.length := by
          have := List.mem_zipIdx ha
          have hh := this.2.1
          rw [List.length_take, List.length_drop] at hh
          omega
        have hm : zs.length = m := hz.trans (hl.2.2 hi.2)
        have hj : i % m < zs.length := by rw [hm]; exact Nat.mod_lt _ h0
        have m1 := ps_mod (a := (i : Int)) (b := (m : Int)) (by omega)
        have m2 := ps_mul2 (a := c) (b := (i : Int) + 2) (by omega)
        have ei : atI (zs.map T.int) ((i : Int) % (m : Int)) = some (.int zs[i % m]) := by
          rw [show (i : Int) % (m : Int) = ((i % m : Nat) : Int) from rfl, atI_nat (by simpa using hj)]; simp
        have ej : ixN zs.length ((i : Int) % (m : Int)) = some (i % m) := by
          rw [show (i : Int) % (m : Int) = ((i % m : Nat) : Int) from rfl, ixN_nat hj]
        refine ⟨.next, [some (mt (.rd ns)), some (mt (.int m)), some (.bx (.ls ((zs.set (i % m) (zs[i % m] + c * ((i : Int) + 2))).map .int))), none, none, none], ?_, .inl rfl, zs.set (i % m) (zs[i % m] + c * ((i : Int) + 2)), by rw [List.length_set]; exact hz, rfl⟩
        simp [hGp, m1, m2, ei, ej, List.map_set])
    exact ⟨ρ', e1, zs, e2, e3⟩
  obtain ⟨ρ', e1, zs, e2, rfl⟩ := loop
  refine ⟨zs, ?_, by omega, by omega⟩
  rw [val_step (d := Lcells.d) hd rfl, ← hG]
  unfold run
  rw [show Lcells.d.body = Lcells.b from rfl]
  rw [show ([T.rd ns, T.int (m : Int)].map mt).map some ++ List.replicate (Lcells.d.n - ([T.rd ns, T.int (m : Int)].map mt).length) none = [some (mt (.rd ns)), some (mt (.int m)), none, none, none, none] from rfl]
  rw [ex_seq, first, bnd_ok, ex_seq, e1, bnd_ok]
  simp [hGp, Lcells.d]
/-- the law's own check of one box -/
structure RightOk (F : Fn) : Prop where
  mu : F.mu = [true]
  sem : ∀ {x : Box}, x.ok 1000000 → ∃ y : Box, F.sem [x.m] = some (mt (.bl true), [some y.m])
theorem law_all {G : Gc} {F : Fn} (hB : BoxOk G.fns) (hF : G.fns "_law_right" = some F) (H : RightOk F) {ys : List Int} (hl : ys.length ≤ 63) {a : M} (hp : G.pin = []) :
    ev G (.op .all (.cons (.comp [2] (.nm 2) (.range1 (.op .len (.cons (.var 1) .nil))) .nil (.call "_law_right" (.cons (.callp "_law_box" (.cons (.var 1) (.cons (.var 2) .nil))) .nil))) .nil)) [some a, some (mt (.lst (ys.map .int))), none] = some (mt (.bl true), [some a, some (mt (.lst (ys.map .int))), none]) := by
  have mu := H.mu
  have q : ev G (.comp [2] (.nm 2) (.range1 (.op .len (.cons (.var 1) .nil))) .nil (.call "_law_right" (.cons (.callp "_law_box" (.cons (.var 1) (.cons (.var 2) .nil))) .nil))) [some a, some (mt (.lst (ys.map .int))), none] = some (.bx (.ls (((List.range ys.length).map fun (i : Nat) => T.int (i : Int)).map fun _ => .bl true)), [some a, some (mt (.lst (ys.map .int))), none]) := by
    refine ev_comp_map (fun _ => .bl true) (evI_range (n := ys.length) (by simp) (by omega)) fun x hx => ?_
    obtain ⟨i, hi, rfl⟩ := List.mem_map.mp hx
    obtain ⟨b, e1, o1⟩ := hB (ns := ys) (List.mem_range.mp hi) (by have := List.mem_range.mp hi; omega)
    obtain ⟨y, e2⟩ := H.sem o1
    refine ⟨[some a, some (mt (.lst (ys.map .int))), some (mt (.int i))], ?_, by simp⟩
    simp [turnF, hp, hF, mu, e1, e2]
  rw [ev_op, evs_c, slot_comp]
  show bnd (bnd (ev G _ _) _) _ = _
  rw [q, bnd_ok, frz_bx, obd_ok, frz_ls, evs_n, bnd_ok, bnd_ok, List.map_map]
  have e : ((fun _ => T.bl true) ∘ fun (i : Nat) => T.int (i : Int)) = fun _ => T.bl true := rfl
  rw [e, all_true, obd_ok]
theorem ret_ok {G : Gc} {e : E} {ρ ρ' : Slots} {m : M} (hs : e.slot? = none) (h : ev G e ρ = some (m, ρ')) : ex G (.ret e) ρ = some (.ret m, ρ') := by
  rw [ex_ret, hs]
  show bnd (ev G e ρ) _ = _
  rw [h, bnd_ok]
theorem asg_ok {G : Gc} {i : Nat} {e : E} {ρ ρ' : Slots} {m : M} (h : ev G e ρ = some (m, ρ')) (hi : i < ρ'.length) (hp : i ∉ G.pin) : ex G (.asg (.nm i) e) ρ = some (.next, ρ'.set i (some m)) := by
  rw [ex_asg, h, bnd_ok, setM_at, if_pos ⟨hi, hp⟩, obd_ok]
def LawOk (fns : Tab) : Prop := ∀ ns : List Int, ns.length ≤ 63 → valOf fns "law" [.rd ns] = some (mt (.bl true))
theorem law3_ok {F : Fn} (hd : D.lookup ("law" : Str) = some P_law.d) (hC : CellsOk fns) (hB : BoxOk fns) (hF : fns "_law_right" = some F) (H : RightOk F) : LawOk (stepT D cs fns) := by
  intro ns hn
  obtain ⟨ys, e1, h0, h1⟩ := hC (ns := ns) (m := 3) (by decide) (by decide)
  rw [val_step (d := P_law.d) hd rfl]
  obtain ⟨G, hG⟩ : ∃ G : Gc, G = P_law.d.gc cs fns := ⟨_, rfl⟩
  have hGp : G.pin = [] := by rw [hG]; rfl
  have e1 : valOf G.fns "_law_cells" [.rd ns, .int 3] = some (.bx (.ls (ys.map .int))) := by rw [hG]; exact e1
  have s0 : ex G P_law.s0 [some (mt (.rd ns)), none, none] = some (.next, [some (mt (.rd ns)), some (.bx (.ls (ys.map .int))), none]) := by
    rw [asg_ok (ρ' := [some (mt (.rd ns)), none, none]) (m := .bx (.ls (ys.map .int))) (by simp [e1]) (by simp) (by rw [hGp]; simp)]
    rfl
  have q := law_all (G := G) (by rw [hG]; exact hB) (by rw [hG]; exact hF) H (ys := ys) (by omega) (a := mt (.rd ns)) hGp
  have s1 : ex G P_law.s1 [some (mt (.rd ns)), some (mt (.lst (ys.map .int))), none] = some (.ret (mt (.bl true)), [some (mt (.rd ns)), some (mt (.lst (ys.map .int))), none]) := ret_ok rfl q
  rw [← hG]
  unfold run
  rw [show P_law.d.body = P_law.b from rfl]
  rw [show ([T.rd ns].map mt).map some ++ List.replicate (P_law.d.n - ([T.rd ns].map mt).length) none = [some (mt (.rd ns)), none, none] from rfl]
  rw [ex_seq, s0, bnd_ok]
  simp only [ex_fz, frzS_c, frzS_n, List.getElem?_cons_succ, List.getElem?_cons_zero, List.set_cons_succ, List.set_cons_zero, frz_ls]
  rw [ex_seq, s1, bnd_ok]
  simp [P_law.d]
end
end Mk
set_option maxHeartbeats 4000000
/-! Mk: fractions in lowest terms. -/
namespace Mk
open PySem L2
/-- a fraction as the program tells it -/
def fr (q : Rat) : T := .tup [.int q.num, .int (q.den : Int)]
theorem fr_inj {p q : Rat} (h : fr p = fr q) : p = q := by
  unfold fr at h
  injection h with h
  injection h with h1 h2
  injection h2 with h2 _
  injection h1 with h1
  injection h2 with h2
  exact Rat.ext h1 (by exact_mod_cast h2)
/-- the loop of the greatest divisor: in so many turns -/
theorem gcd_loop {c : Slots → Option (Bool × Slots)} {f : Slots → Option (Out × Slots)} {x y : Option M}
    (hc : ∀ a b : Nat, c [x, y, some (mt (.int (a : Int))), some (mt (.int (b : Int)))] = some (decide (b ≠ 0), [x, y, some (mt (.int (a : Int))), some (mt (.int (b : Int)))]))
    (hf : ∀ a b : Nat, b ≠ 0 → f [x, y, some (mt (.int (a : Int))), some (mt (.int (b : Int)))] = some (.next, [x, y, some (mt (.int (b : Int))), some (mt (.int ((a % b : Nat) : Int)))])) :
    ∀ (k a b n : Nat), b < 2 ^ k → 2 * k + 1 ≤ n → whileL c f n [x, y, some (mt (.int (a : Int))), some (mt (.int (b : Int)))] = some (.next, [x, y, some (mt (.int ((Nat.gcd a b : Nat) : Int))), some (mt (.int 0))]) := by
  have done : ∀ (a n : Nat), 1 ≤ n → whileL c f n [x, y, some (mt (.int (a : Int))), some (mt (.int ((0 : Nat) : Int)))] = some (.next, [x, y, some (mt (.int ((Nat.gcd a 0 : Nat) : Int))), some (mt (.int 0))]) := by
    intro a n hn
    obtain ⟨n, rfl⟩ := Nat.exists_eq_add_of_le' hn
    unfold whileL
    rw [hc, bnd_ok, Nat.gcd_zero_right]
    simp
  have step : ∀ (a b n : Nat), b ≠ 0 → whileL c f (n + 1) [x, y, some (mt (.int (a : Int))), some (mt (.int (b : Int)))] = whileL c f n [x, y, some (mt (.int (b : Int))), some (mt (.int ((a % b : Nat) : Int)))] := by
    intro a b n hb
    rw [whileL, hc, bnd_ok, hf a b hb]
    simp [hb]
  intro k
  induction k with
  | zero =>
    intro a b n hb hn
    have : b = 0 := by omega
    subst this
    exact done a n (by omega)
  | succ k ih =>
    intro a b n hb hn
    by_cases h0 : b = 0
    · subst h0; exact done a n (by omega)
    obtain ⟨n, rfl⟩ : ∃ m, n = m + 2 := ⟨n - 2, by omega⟩
    rw [step a b (n + 1) h0]
    have g1 : Nat.gcd a b = Nat.gcd b (a % b) := by rw [Nat.gcd_comm a b, Nat.gcd_rec b a, Nat.gcd_comm]
    by_cases h1 : a % b = 0
    · rw [g1, h1]
      exact done b (n + 1) (by omega)
    · rw [step b (a % b) n h1]
      have g2 : Nat.gcd b (a % b) = Nat.gcd (a % b) (b % (a % b)) := by rw [Nat.gcd_comm b, Nat.gcd_rec (a % b) b, Nat.gcd_comm]
      rw [g1, g2]
      refine ih _ _ n ?_ (by omega)
      have l1 := Nat.mod_lt a (Nat.pos_of_ne_zero h0)
      have l2 := Nat.mod_lt b (Nat.pos_of_ne_zero h1)
      have l3 : b % (a % b) ≤ b - a % b := by
        have := Nat.mod_add_div b (a % b)
        have hq : 1 ≤ b / (a % b) := (Nat.one_le_div_iff (Nat.pos_of_ne_zero h1)).2 (Nat.le_of_lt l1)
        have : a % b ≤ a % b * (b / (a % b)) := Nat.le_mul_of_pos_right _ hq
        omega
      rw [Nat.pow_succ] at hb
      omega
section
variable {D : Defs} {cs : Cons} {fns : Tab}
/-- lowest terms, and what takes it -/
def LowOk (f : Str) (fns : Tab) : Prop := ∀ a b : Int, b ≠ 0 → b.natAbs < 2 ^ 499 → valOf fns f [.int a, .int b] = some (mt (fr (Rat.divInt a b)))
theorem fr_divInt {a b : Int} (hb : 0 < b) : fr (Rat.divInt a b) = .tup [.int (a / (Nat.gcd a.natAbs b.natAbs : Nat)), .int (b / (Nat.gcd a.natAbs b.natAbs : Nat))] := by
  unfold fr
  have e : b.gcd a = Nat.gcd a.natAbs b.natAbs := by rw [Int.gcd_comm]; rfl
  have hn : (Rat.divInt a b).num = a / (Nat.gcd a.natAbs b.natAbs : Nat) := by
    rw [Rat.num_divInt, Int.sign_eq_one_of_pos hb, Int.one_mul, e]
  have hd : ((Rat.divInt a b).den : Int) = b / (Nat.gcd a.natAbs b.natAbs : Nat) := by
    rw [Rat.den_divInt, if_neg (by omega), e, Int.natCast_ediv, Int.natAbs_of_nonneg (by omega)]
  rw [hn, hd]
theorem divInt_sign (a b : Int) : Rat.divInt (-a) (-b) = Rat.divInt a b := Rat.neg_divInt_neg a b
theorem lowest_ok (hd : D.lookup ("lowest" : Str) = some P_lowest.d) : LowOk "lowest" (stepT D cs fns) := by
  intro a b hb hs
  obtain ⟨G, hG⟩ : ∃ G : Gc, G = P_lowest.d.gc cs fns := ⟨_, rfl⟩
  have hGp : G.pin = [] := by rw [hG]; rfl
  obtain ⟨a', b', h0, hs', hf, s0⟩ : ∃ a' b' : Int, 0 < b' ∧ b'.natAbs < 2 ^ 499 ∧ Rat.divInt a b = Rat.divInt a' b' ∧
      ex G P_lowest.s0 [some (mt (.int a)), some (mt (.int b)), none, none] = some (.next, [some (mt (.int a')), some (mt (.int b')), none, none]) := by
    by_cases hn : b < 0
    · exact ⟨-a, -b, by omega, by rw [Int.natAbs_neg]; exact hs, (divInt_sign a b).symm, by simp [hn, hGp]⟩
    · exact ⟨a, b, by omega, hs, rfl, by simp [hn, hGp]⟩
  obtain ⟨n, rfl⟩ := Int.eq_ofNat_of_zero_le (Int.le_of_lt h0)
  have s1 : ex G P_lowest.s1 [some (mt (.int a')), some (mt (.int (n : Int))), none, none] = some (.next, [some (mt (.int a')), some (mt (.int (n : Int))), some (mt (.int (a'.natAbs : Int))), some (mt (.int (n : Int)))]) := by
    have e : (if a' < 0 then -a' else a') = (a'.natAbs : Int) := by split <;> omega
    simp [hGp, e]
  have s2 : ex G P_lowest.s2 [some (mt (.int a')), some (mt (.int (n : Int))), some (mt (.int (a'.natAbs : Int))), some (mt (.int (n : Int)))] = some (.next, [some (mt (.int a')), some (mt (.int (n : Int))), some (mt (.int ((Nat.gcd a'.natAbs n : Nat) : Int))), some (mt (.int 0))]) := by
    rw [ex_while]
    refine gcd_loop (fun a b => ?_) (fun a b h => ?_) 499 _ _ 1000 (by simpa using hs') (by decide)
    · rcases Nat.eq_zero_or_pos b with rfl | z
      · simp
      · have z2 : b ≠ 0 := Nat.pos_iff_ne_zero.mp z
        simp [z, z2]
    · have m := ps_mod (a := (a : Int)) (b := (b : Int)) (by omega)
      simp [m, hGp]
  have gp : 0 < Nat.gcd a'.natAbs n := Nat.gcd_pos_of_pos_right _ (by omega)
  have gl : Nat.gcd a'.natAbs n < 2 ^ 4096 := Nat.lt_of_le_of_lt (Nat.gcd_le_right _ (by omega)) (Nat.lt_of_lt_of_le (show n < 2 ^ 499 by simpa using hs') (Nat.pow_le_pow_right (by decide) (by decide)))
  have d1 := ps_fdivm (a := a') (b := ((Nat.gcd a'.natAbs n : Nat) : Int)) (by omega) (by simpa using gl)
  have d2 := ps_fdivm (a := (n : Int)) (b := ((Nat.gcd a'.natAbs n : Nat) : Int)) (by omega) (by simpa using gl)
  have fe := fr_divInt (a := a') (b := (n : Int)) h0
  have s3 : ex G P_lowest.s3 [some (mt (.int a')), some (mt (.int (n : Int))), some (mt (.int ((Nat.gcd a'.natAbs n : Nat) : Int))), some (mt (.int 0))] = some (.ret (mt (fr (Rat.divInt a' n))), [some (mt (.int a')), some (mt (.int (n : Int))), some (mt (.int ((Nat.gcd a'.natAbs n : Nat) : Int))), some (mt (.int 0))]) := by
    rw [fe]
    simp [d1, d2]
  rw [val_step (d := P_lowest.d) hd rfl, ← hG]
  unfold run
  rw [show P_lowest.d.body = P_lowest.b from rfl]
  rw [show ([T.int a, T.int b].map mt).map some ++ List.replicate (P_lowest.d.n - ([T.int a, T.int b].map mt).length) none = [some (mt (.int a)), some (mt (.int b)), none, none] from rfl]
  rw [ex_seq, s0, bnd_ok, ex_seq, s1, bnd_ok, ex_seq, s2, bnd_ok, ex_seq, s3, bnd_ok, hf]
  simp [P_lowest.d]
theorem llow_ok (hd : D.lookup ("_law_low_terms" : Str) = some Llow_terms.d) : LowOk "_law_low_terms" (stepT D cs fns) := by
  intro a b hb hs
  obtain ⟨G, hG⟩ : ∃ G : Gc, G = Llow_terms.d.gc cs fns := ⟨_, rfl⟩
  have hGp : G.pin = [] := by rw [hG]; rfl
  obtain ⟨a', b', h0, hs', hf, s0⟩ : ∃ a' b' : Int, 0 < b' ∧ b'.natAbs < 2 ^ 499 ∧ Rat.divInt a b = Rat.divInt a' b' ∧
      ex G Llow_terms.s0 [some (mt (.int a)), some (mt (.int b)), none, none] = some (.next, [some (mt (.int a')), some (mt (.int b')), none, none]) := by
    by_cases hn : b < 0
    · exact ⟨-a, -b, by omega, by rw [Int.natAbs_neg]; exact hs, (divInt_sign a b).symm, by simp [hn, hGp, Int.zero_sub]⟩
    · exact ⟨a, b, by omega, hs, rfl, by simp [hn, hGp]⟩
  obtain ⟨n, rfl⟩ := Int.eq_ofNat_of_zero_le (Int.le_of_lt h0)
  have s1 : ex G Llow_terms.s1 [some (mt (.int a')), some (mt (.int (n : Int))), none, none] = some (.next, [some (mt (.int a')), some (mt (.int (n : Int))), some (mt (.int (a'.natAbs : Int))), some (mt (.int (n : Int)))]) := by
    have e : (if a' < 0 then -a' else a') = (a'.natAbs : Int) := by split <;> omega
    simp [hGp, e]
  have s2 : ex G Llow_terms.s2 [some (mt (.int a')), some (mt (.int (n : Int))), some (mt (.int (a'.natAbs : Int))), some (mt (.int (n : Int)))] = some (.next, [some (mt (.int a')), some (mt (.int (n : Int))), some (mt (.int ((Nat.gcd a'.natAbs n : Nat) : Int))), some (mt (.int 0))]) := by
    rw [ex_while]
    refine gcd_loop (fun a b => ?_) (fun a b h => ?_) 499 _ _ 1000 (by simpa using hs') (by decide)
    · rcases Nat.eq_zero_or_pos b with rfl | z
      · simp
      · have z2 : b ≠ 0 := Nat.pos_iff_ne_zero.mp z
        simp [z, z2]
    · have m := ps_mod (a := (a : Int)) (b := (b : Int)) (by omega)
      simp [m, hGp]
  have gp : 0 < Nat.gcd a'.natAbs n := Nat.gcd_pos_of_pos_right _ (by omega)
  have gl : Nat.gcd a'.natAbs n < 2 ^ 4096 := Nat.lt_of_le_of_lt (Nat.gcd_le_right _ (by omega)) (Nat.lt_of_lt_of_le (show n < 2 ^ 499 by simpa using hs') (Nat.pow_le_pow_right (by decide) (by decide)))
  have d1 := ps_fdivm (a := a') (b := ((Nat.gcd a'.natAbs n : Nat) : Int)) (by omega) (by simpa using gl)
  have d2 := ps_fdivm (a := (n : Int)) (b := ((Nat.gcd a'.natAbs n : Nat) : Int)) (by omega) (by simpa using gl)
  have fe := fr_divInt (a := a') (b := (n : Int)) h0
  have s3 : ex G Llow_terms.s3 [some (mt (.int a')), some (mt (.int (n : Int))), some (mt (.int ((Nat.gcd a'.natAbs n : Nat) : Int))), some (mt (.int 0))] = some (.ret (mt (fr (Rat.divInt a' n))), [some (mt (.int a')), some (mt (.int (n : Int))), some (mt (.int ((Nat.gcd a'.natAbs n : Nat) : Int))), some (mt (.int 0))]) := by
    rw [fe]
    simp [d1, d2]
  rw [val_step (d := Llow_terms.d) hd rfl, ← hG]
  unfold run
  rw [show Llow_terms.d.body = Llow_terms.b from rfl]
  rw [show ([T.int a, T.int b].map mt).map some ++ List.replicate (Llow_terms.d.n - ([T.int a, T.int b].map mt).length) none = [some (mt (.int a)), some (mt (.int b)), none, none] from rfl]
  rw [ex_seq, s0, bnd_ok, ex_seq, s1, bnd_ok, ex_seq, s2, bnd_ok, ex_seq, s3, bnd_ok, hf]
  simp [Llow_terms.d]
/-- a fraction of so many bits -/
def Sm (n d : Nat) (q : Rat) : Prop := q.num.natAbs < 2 ^ n ∧ q.den < 2 ^ d
theorem pw {n j k : Nat} (h : n < 2 ^ j) (hk : j ≤ k) : n < 2 ^ k := Nat.lt_of_lt_of_le h (Nat.pow_le_pow_right (by decide) hk)
theorem Sm.mono {n d n' d' : Nat} {q : Rat} (h : Sm n d q) (hn : n ≤ n') (hd : d ≤ d') : Sm n' d' q := ⟨pw h.1 hn, pw h.2 hd⟩
theorem sm_divInt {a b : Int} {n d : Nat} (ha : a.natAbs < 2 ^ n) (hb : b.natAbs < 2 ^ d) (h0 : b ≠ 0) : Sm n d (Rat.divInt a b) := by
  refine ⟨?_, ?_⟩
  · rw [Rat.num_divInt, Int.natAbs_ediv_of_dvd]
    · rw [Int.natAbs_mul, Int.natAbs_sign_of_ne_zero h0, Nat.one_mul]
      exact Nat.lt_of_le_of_lt (Nat.div_le_self _ _) ha
    · exact Int.dvd_mul_of_dvd_right (Int.gcd_dvd_right ..)
  · rw [Rat.den_divInt, if_neg h0]
    exact Nat.lt_of_le_of_lt (Nat.div_le_self _ _) hb
theorem sm_mul {a b : Int} {j k : Nat} (ha : a.natAbs < 2 ^ j) (hb : b.natAbs < 2 ^ k) : (a * b).natAbs < 2 ^ (j + k) := by
  rw [Int.natAbs_mul, Nat.pow_add]
  exact Nat.mul_lt_mul'' ha hb
theorem sm_add {a b : Int} {k : Nat} (ha : a.natAbs < 2 ^ k) (hb : b.natAbs < 2 ^ k) : (a + b).natAbs < 2 ^ (k + 1) := by
  have := Int.natAbs_add_le a b
  rw [Nat.pow_succ]
  omega
theorem den_pos (q : Rat) : (0 : Int) < (q.den : Int) := by
  have := q.den_pos
  omega
theorem add_divInt (p q : Rat) : p + q = Rat.divInt (p.num * q.den + q.num * p.den) (p.den * q.den : Int) := by
  rw [Rat.add_def', ← Rat.divInt_ofNat]
  rw [Int.natCast_mul]
theorem Sm.add {n d n' d' : Nat} {p q : Rat} (hp : Sm n d p) (hq : Sm n' d' q) : Sm (max (n + d') (n' + d) + 1) (d + d') (p + q) := by
  rw [add_divInt]
  have h1 := sm_mul (a := p.num) (b := (q.den : Int)) hp.1 (by simpa using hq.2)
  have h2 := sm_mul (a := q.num) (b := (p.den : Int)) hq.1 (by simpa using hp.2)
  have h3 := sm_mul (a := (p.den : Int)) (b := (q.den : Int)) (by simpa using hp.2) (by simpa using hq.2)
  refine sm_divInt (sm_add (pw h1 (by omega)) (pw h2 (by omega))) h3 ?_
  have := Int.mul_pos (den_pos p) (den_pos q)
  omega
theorem big {n j : Nat} (h : n < 2 ^ j) (hj : j ≤ 4096) : n < 2 ^ 4096 := Nat.lt_of_lt_of_le h (Nat.pow_le_pow_right (by decide) hj)
def PlusOk (f : Str) (fns : Tab) : Prop := ∀ (p q : Rat) (n d n' d' : Nat), Sm n d p → Sm n' d' q → d + d' ≤ 499 → n ≤ 4096 → n' ≤ 4096 → valOf fns f [fr p, fr q] = some (mt (fr (p + q)))
theorem plus_ok (hd : D.lookup ("plus" : Str) = some P_plus.d) (hL : LowOk "lowest" fns) : PlusOk "plus" (stepT D cs fns) := by
  intro p q n d n' d' hp hq hjk hn hn'
  have m1 := ps_mulm (a := p.num) (b := (q.den : Int)) (big hp.1 (by omega)) (by simpa using big hq.2 (by omega))
  have m2 := ps_mulm (a := q.num) (b := (p.den : Int)) (big hq.1 (by omega)) (by simpa using big hp.2 (by omega))
  have m3 := ps_mulm (a := (p.den : Int)) (b := (q.den : Int)) (by simpa using big hp.2 (by omega)) (by simpa using big hq.2 (by omega))
  have h3 := sm_mul (a := (p.den : Int)) (b := (q.den : Int)) (by simpa using hp.2) (by simpa using hq.2)
  have pos := Int.mul_pos (den_pos p) (den_pos q)
  have hl := hL (p.num * q.den + q.num * p.den) ((p.den : Int) * (q.den : Int)) (by omega) (pw h3 hjk)
  rw [← add_divInt] at hl
  rw [val_step (d := P_plus.d) hd rfl]
  simp [run, P_plus.d, Df.gc, fr, m1, m2, m3]
  rw [hl]
  simp [fr]
theorem lplus_ok (hd : D.lookup ("_law_plus" : Str) = some Lplus.d) (hL : LowOk "_law_low_terms" fns) : PlusOk "_law_plus" (stepT D cs fns) := by
  intro p q n d n' d' hp hq hjk hn hn'
  have m1 := ps_mulm (a := p.num) (b := (q.den : Int)) (big hp.1 (by omega)) (by simpa using big hq.2 (by omega))
  have m2 := ps_mulm (a := q.num) (b := (p.den : Int)) (big hq.1 (by omega)) (by simpa using big hp.2 (by omega))
  have m3 := ps_mulm (a := (p.den : Int)) (b := (q.den : Int)) (by simpa using big hp.2 (by omega)) (by simpa using big hq.2 (by omega))
  have h3 := sm_mul (a := (p.den : Int)) (b := (q.den : Int)) (by simpa using hp.2) (by simpa using hq.2)
  have pos := Int.mul_pos (den_pos p) (den_pos q)
  have hl := hL (p.num * q.den + q.num * p.den) ((p.den : Int) * (q.den : Int)) (by omega) (pw h3 hjk)
  rw [← add_divInt] at hl
  rw [val_step (d := Lplus.d) hd rfl]
  simp [run, Lplus.d, Df.gc, fr, m1, m2, m3]
  rw [hl]
  simp [fr]
def LessOk (f : Str) (fns : Tab) : Prop := ∀ (p q : Rat) (n d n' d' : Nat), Sm n d p → Sm n' d' q → n ≤ 4096 → d ≤ 4096 → n' ≤ 4096 → d' ≤ 4096 → valOf fns f [fr p, fr q] = some (mt (.bl (decide (p < q))))
theorem lessQ_ok (hd : D.lookup ("less" : Str) = some P_less.d) : LessOk "less" (stepT D cs fns) := by
  intro p q n d n' d' hp hq h1 h2 h3 h4
  have m1 := ps_mulm (a := p.num) (b := (q.den : Int)) (big hp.1 h1) (by simpa using big hq.2 h4)
  have m2 := ps_mulm (a := q.num) (b := (p.den : Int)) (big hq.1 h3) (by simpa using big hp.2 h2)
  have e : decide (p.num * (q.den : Int) < q.num * (p.den : Int)) = decide (p < q) := decide_eq_decide.mpr (Rat.lt_iff p q).symm
  rw [val_step (d := P_less.d) hd rfl]
  simp [run, P_less.d, Df.gc, fr, m1, m2, e]
theorem lless_ok (hd : D.lookup ("_law_less" : Str) = some Lless.d) : LessOk "_law_less" (stepT D cs fns) := by
  intro p q n d n' d' hp hq h1 h2 h3 h4
  have m1 := ps_mulm (a := p.num) (b := (q.den : Int)) (big hp.1 h1) (by simpa using big hq.2 h4)
  have m2 := ps_mulm (a := q.num) (b := (p.den : Int)) (big hq.1 h3) (by simpa using big hp.2 h2)
  have e : decide (p.num * (q.den : Int) < q.num * (p.den : Int)) = decide (p < q) := decide_eq_decide.mpr (Rat.lt_iff p q).symm
  rw [val_step (d := Lless.d) hd rfl]
  simp [run, Lless.d, Df.gc, fr, m1, m2, e]
theorem mul_divInt (p : Rat) (n : Int) : p * (n : Rat) = Rat.divInt (p.num * n) (p.den : Int) := by
  rw [Rat.mul_def', Rat.divInt_ofNat]
  simp
theorem div_divInt (p : Rat) (n : Int) : p / (n : Rat) = Rat.divInt p.num ((p.den : Int) * n) := by
  have h1 : (n : Rat)⁻¹ = Rat.divInt 1 n := by
    have this : (n : Rat) = Rat.divInt n 1 := (Rat.num_divInt_den (n : Rat)).symm
    rw [this, Rat.inv_divInt]
  rw [Rat.div_def, h1]
  have : p = Rat.divInt p.num (p.den : Int) := (Rat.num_divInt_den p).symm
  rw [this, Rat.divInt_mul_divInt, Int.mul_one, ← this]
theorem Sm.mul {n d k : Nat} {p : Rat} {m : Int} (hp : Sm n d p) (hm : m.natAbs < 2 ^ k) : Sm (n + k) d (p * m) := by
  rw [mul_divInt]
  exact sm_divInt (sm_mul hp.1 hm) (by simpa using hp.2) (by have := den_pos p; omega)
theorem Sm.div {n d k : Nat} {p : Rat} {m : Int} (hp : Sm n d p) (hm : m.natAbs < 2 ^ k) (h0 : m ≠ 0) : Sm n (d + k) (p / m) := by
  rw [div_divInt]
  exact sm_divInt hp.1 (sm_mul (by simpa using hp.2) hm) (Int.mul_ne_zero (by have := den_pos p; omega) h0)
theorem Sm.int {n : Nat} {m : Int} (h : m.natAbs < 2 ^ n) : Sm n 1 (m : Rat) := ⟨by simpa using h, by
  rw [Rat.den_intCast]
  decide⟩
@[simp] theorem fr_int (n : Int) : fr (n : Rat) = .tup [.int n, .int 1] := by simp [fr]
def TimesOk (f : Str) (fns : Tab) : Prop := ∀ (p : Rat) (m : Int) (n d k : Nat), Sm n d p → m.natAbs < 2 ^ k → d ≤ 499 → n ≤ 4096 → k ≤ 4096 → valOf fns f [fr p, .int m] = some (mt (fr (p * m)))
def OverOk (f : Str) (fns : Tab) : Prop := ∀ (p : Rat) (m : Int) (n d k : Nat), Sm n d p → m.natAbs < 2 ^ k → m ≠ 0 → d + k ≤ 499 → valOf fns f [fr p, .int m] = some (mt (fr (p / m)))
theorem times_ok (hd : D.lookup ("times" : Str) = some P_times.d) (hL : LowOk "lowest" fns) : TimesOk "times" (stepT D cs fns) := by
  intro p m n d k hp hm hd' hn hk
  have m1 := ps_mulm (a := p.num) (b := m) (big hp.1 hn) (big hm hk)
  have hl := hL (p.num * m) (p.den : Int) (by have := den_pos p; omega) (pw (by simpa using hp.2) hd')
  rw [← mul_divInt] at hl
  rw [val_step (d := P_times.d) hd rfl]
  simp [run, P_times.d, Df.gc, fr, m1]
  rw [hl]
  simp [fr]
theorem ltimes_ok (hd : D.lookup ("_law_times" : Str) = some Ltimes.d) (hL : LowOk "_law_low_terms" fns) : TimesOk "_law_times" (stepT D cs fns) := by
  intro p m n d k hp hm hd' hn hk
  have m1 := ps_mulm (a := p.num) (b := m) (big hp.1 hn) (big hm hk)
  have hl := hL (p.num * m) (p.den : Int) (by have := den_pos p; omega) (pw (by simpa using hp.2) hd')
  rw [← mul_divInt] at hl
  rw [val_step (d := Ltimes.d) hd rfl]
  simp [run, Ltimes.d, Df.gc, fr, m1]
  rw [hl]
  simp [fr]
theorem over_ok (hd : D.lookup ("over" : Str) = some P_over.d) (hL : LowOk "lowest" fns) : OverOk "over" (stepT D cs fns) := by
  intro p m n d k hp hm h0 hjk
  have m1 := ps_mulm (a := (p.den : Int)) (b := m) (by simpa using big hp.2 (by omega)) (big hm (by omega))
  have hl := hL p.num ((p.den : Int) * m) (Int.mul_ne_zero (by have := den_pos p; omega) h0) (pw (sm_mul (by simpa using hp.2) hm) hjk)
  rw [← div_divInt] at hl
  rw [val_step (d := P_over.d) hd rfl]
  simp [run, P_over.d, Df.gc, fr, m1]
  rw [hl]
  simp [fr]
theorem ldivided_ok (hd : D.lookup ("_law_divided" : Str) = some Ldivided.d) (hL : LowOk "_law_low_terms" fns) : OverOk "_law_divided" (stepT D cs fns) := by
  intro p m n d k hp hm h0 hjk
  have m1 := ps_mulm (a := (p.den : Int)) (b := m) (by simpa using big hp.2 (by omega)) (big hm (by omega))
  have hl := hL p.num ((p.den : Int) * m) (Int.mul_ne_zero (by have := den_pos p; omega) h0) (pw (sm_mul (by simpa using hp.2) hm) hjk)
  rw [← div_divInt] at hl
  rw [val_step (d := Ldivided.d) hd rfl]
  simp [run, Ldivided.d, Df.gc, fr, m1]
  rw [hl]
  simp [fr]
/-- the greatest, the least of some -/
def maxQ : List Rat → Rat
  | [] => 0
  | x :: xs => xs.foldl (fun f o => if f < o then o else f) x
def minQ : List Rat → Rat
  | [] => 0
  | x :: xs => xs.foldl (fun f o => if o < f then o else f) x
theorem foldl_max {xs : List Rat} : ∀ {x : Rat}, (∀ y ∈ x :: xs, y ≤ xs.foldl (fun f o => if f < o then o else f) x) ∧ xs.foldl (fun f o => if f < o then o else f) x ∈ x :: xs := by
  induction xs with
  | nil => intro x; exact ⟨fun y h => by rw [List.mem_singleton.mp h]; exact Rat.le_refl, List.mem_cons_self⟩
  | cons z xs ih =>
    intro x
    rw [List.foldl_cons]
    obtain ⟨h1, h2⟩ := ih (x := if x < z then z else x)
    have hz : (if x < z then z else x) ≤ xs.foldl (fun f o => if f < o then o else f) (if x < z then z else x) := h1 _ List.mem_cons_self
    refine ⟨fun y hy => ?_, ?_⟩
    · rcases List.mem_cons.mp hy with rfl | hy
      · refine Rat.le_trans ?_ hz
        split
        · rename_i h; exact Rat.le_of_lt h
        · exact Rat.le_refl
      · rcases List.mem_cons.mp hy with rfl | hy
        · refine Rat.le_trans ?_ hz
          split
          · exact Rat.le_refl
          · rename_i h; exact Rat.not_lt.mp h
        · exact h1 y (List.mem_cons_of_mem _ hy)
    · rcases List.mem_cons.mp h2 with h | h
      · rw [h]
        split
        · exact List.mem_cons_of_mem _ List.mem_cons_self
        · exact List.mem_cons_self
      · exact List.mem_cons_of_mem _ (List.mem_cons_of_mem _ h)
theorem foldl_min {xs : List Rat} : ∀ {x : Rat}, (∀ y ∈ x :: xs, xs.foldl (fun f o => if o < f then o else f) x ≤ y) ∧ xs.foldl (fun f o => if o < f then o else f) x ∈ x :: xs := by
  induction xs with
  | nil => intro x; exact ⟨fun y h => by rw [List.mem_singleton.mp h]; exact Rat.le_refl, List.mem_cons_self⟩
  | cons z xs ih =>
    intro x
    rw [List.foldl_cons]
    obtain ⟨h1, h2⟩ := ih (x := if z < x then z else x)
    have hz : xs.foldl (fun f o => if o < f then o else f) (if z < x then z else x) ≤ (if z < x then z else x) := h1 _ List.mem_cons_self
    refine ⟨fun y hy => ?_, ?_⟩
    · rcases List.mem_cons.mp hy with rfl | hy
      · refine Rat.le_trans hz ?_
        split
        · rename_i h; exact Rat.le_of_lt h
        · exact Rat.le_refl
      · rcases List.mem_cons.mp hy with rfl | hy
        · refine Rat.le_trans hz ?_
          split
          · exact Rat.le_refl
          · rename_i h; exact Rat.not_lt.mp h
        · exact h1 y (List.mem_cons_of_mem _ hy)
    · rcases List.mem_cons.mp h2 with h | h
      · rw [h]
        split
        · exact List.mem_cons_of_mem _ List.mem_cons_self
        · exact List.mem_cons_self
      · exact List.mem_cons_of_mem _ (List.mem_cons_of_mem _ h)
theorem maxQ_le {xs : List Rat} {y : Rat} (h : y ∈ xs) : y ≤ maxQ xs := by
  cases xs with
  | nil => cases h
  | cons x xs => exact foldl_max.1 y h
theorem maxQ_mem {xs : List Rat} (h : xs ≠ []) : maxQ xs ∈ xs := by
  cases xs with
  | nil => exact absurd rfl h
  | cons x xs => exact foldl_max.2
theorem minQ_le {xs : List Rat} {y : Rat} (h : y ∈ xs) : minQ xs ≤ y := by
  cases xs with
  | nil => cases h
  | cons x xs => exact foldl_min.1 y h
theorem minQ_mem {xs : List Rat} (h : xs ≠ []) : minQ xs ∈ xs := by
  cases xs with
  | nil => exact absurd rfl h
  | cons x xs => exact foldl_min.2
def BestOf (f : Str) (g : List Rat → Rat) (fns : Tab) : Prop := ∀ (qs : List Rat) (b : Bool) (n d : Nat), qs ≠ [] → (∀ q ∈ qs, Sm n d q) → n ≤ 4096 → d ≤ 4096 → valOf fns f [.sq b (qs.map fr)] = some (mt (fr (g qs)))
theorem greatest_of_ok (hd : D.lookup ("greatest_of" : Str) = some P_greatest_of.d) (hL : LessOk "less" fns) : BestOf "greatest_of" maxQ (stepT D cs fns) := by
  intro qs b n d hne hs hj hj2
  cases qs with
  | nil => exact absurd rfl hne
  | cons x xs =>
    obtain ⟨G, hG⟩ : ∃ G : Gc, G = P_greatest_of.d.gc cs fns := ⟨_, rfl⟩
    have hGp : G.pin = [] := by rw [hG]; rfl
    have hl : ∀ p q, p ∈ x :: xs → q ∈ x :: xs → valOf G.fns "less" [fr p, fr q] = some (mt (.bl (decide (p < q)))) := fun p q hp hq => by rw [hG]; exact hL p q n d n d (hs p hp) (hs q hq) hj hj2 hj hj2
    have s0 : ex G P_greatest_of.s0 [some (mt (.sq b ((x :: xs).map fr))), none, none] = some (.next, [some (mt (.sq b ((x :: xs).map fr))), some (mt (fr x)), none]) := by
      have e : atI (List.map fr (x :: xs)) 0 = some (fr x) := by rw [show (0 : Int) = ((0 : Nat) : Int) from rfl, atI_nat (by simp)]; simp
      simp [hGp, -List.map_cons, e]
    have hI : evI G (.seq (.sl (.var 0) (.some (.k (.int 1))) .no)) [some (mt (.sq b ((x :: xs).map fr))), some (mt (fr x)), none] = some (xs.map fr, [some (mt (.sq b ((x :: xs).map fr))), some (mt (fr x)), none]) := by
      have c : cutT ((x :: xs).map fr) (some 1) none = xs.map fr := cut_from ((x :: xs).map fr) 1
      cases b <;> simp [-List.map_cons, c]
    have loop : ∃ ρ', ex G P_greatest_of.s1 [some (mt (.sq b ((x :: xs).map fr))), some (mt (fr x)), none] = some (.next, ρ') ∧ ρ' = [some (mt (.sq b ((x :: xs).map fr))), some (mt (fr (maxQ (x :: xs)))), none] := by
      rw [ex_for, hI, bnd_ok]
      obtain ⟨ρ', e1, e2⟩ := forL_run (mk := fr) (f := fun y ρ => obd ((Tg.nm 2).store G.pin y ρ) fun ρ => ex G P_greatest_of.s1bB ρ)
        (fun done ρ => ρ = [some (mt (.sq b ((x :: xs).map fr))), some (mt (fr (done.foldl (fun f o => if f < o then o else f) x))), none] ∧ done.foldl (fun f o => if f < o then o else f) x ∈ x :: xs) (xs := xs) (done := []) ⟨rfl, List.mem_cons_self⟩ (by
          rintro done o ρ ho ⟨rfl, hm⟩
          have ho' : o ∈ x :: xs := List.mem_cons_of_mem _ ho
          have q := hl _ _ hm ho'
          by_cases hlt : done.foldl (fun f o => if f < o then o else f) x < o
          · refine ⟨.next, _, ?_, .inl rfl, rfl, ?_⟩
            · simp [hGp, q, hlt, List.foldl_append]
            · rw [List.foldl_append]; simpa [hlt] using ho'
          · refine ⟨.next, _, ?_, .inl rfl, rfl, ?_⟩
            · simp [hGp, q, hlt, List.foldl_append]
            · rw [List.foldl_append]; simpa [hlt] using hm)
      exact ⟨ρ', e1, e2.1⟩
    obtain ⟨ρ', e1, rfl⟩ := loop
    rw [val_step (d := P_greatest_of.d) hd rfl, ← hG]
    unfold run
    rw [show P_greatest_of.d.body = P_greatest_of.b from rfl]
    rw [show ([T.sq b ((x :: xs).map fr)].map mt).map some ++ List.replicate (P_greatest_of.d.n - ([T.sq b ((x :: xs).map fr)].map mt).length) none = [some (mt (.sq b ((x :: xs).map fr))), none, none] from rfl]
    rw [ex_seq, s0, bnd_ok, ex_seq, e1, bnd_ok]
    simp [hGp, P_greatest_of.d]
theorem least_of_ok (hd : D.lookup ("least_of" : Str) = some P_least_of.d) (hL : LessOk "less" fns) : BestOf "least_of" minQ (stepT D cs fns) := by
  intro qs b n d hne hs hj hj2
  cases qs with
  | nil => exact absurd rfl hne
  | cons x xs =>
    obtain ⟨G, hG⟩ : ∃ G : Gc, G = P_least_of.d.gc cs fns := ⟨_, rfl⟩
    have hGp : G.pin = [] := by rw [hG]; rfl
    have hl : ∀ p q, p ∈ x :: xs → q ∈ x :: xs → valOf G.fns "less" [fr p, fr q] = some (mt (.bl (decide (p < q)))) := fun p q hp hq => by rw [hG]; exact hL p q n d n d (hs p hp) (hs q hq) hj hj2 hj hj2
    have s0 : ex G P_least_of.s0 [some (mt (.sq b ((x :: xs).map fr))), none, none] = some (.next, [some (mt (.sq b ((x :: xs).map fr))), some (mt (fr x)), none]) := by
      have e : atI (List.map fr (x :: xs)) 0 = some (fr x) := by rw [show (0 : Int) = ((0 : Nat) : Int) from rfl, atI_nat (by simp)]; simp
      simp [hGp, -List.map_cons, e]
    have hI : evI G (.seq (.sl (.var 0) (.some (.k (.int 1))) .no)) [some (mt (.sq b ((x :: xs).map fr))), some (mt (fr x)), none] = some (xs.map fr, [some (mt (.sq b ((x :: xs).map fr))), some (mt (fr x)), none]) := by
      have c : cutT ((x :: xs).map fr) (some 1) none = xs.map fr := cut_from ((x :: xs).map fr) 1
      cases b <;> simp [-List.map_cons, c]
    have loop : ∃ ρ', ex G P_least_of.s1 [some (mt (.sq b ((x :: xs).map fr))), some (mt (fr x)), none] = some (.next, ρ') ∧ ρ' = [some (mt (.sq b ((x :: xs).map fr))), some (mt (fr (minQ (x :: xs)))), none] := by
      rw [ex_for, hI, bnd_ok]
      obtain ⟨ρ', e1, e2⟩ := forL_run (mk := fr) (f := fun y ρ => obd ((Tg.nm 2).store G.pin y ρ) fun ρ => ex G P_least_of.s1bB ρ)
        (fun done ρ => ρ = [some (mt (.sq b ((x :: xs).map fr))), some (mt (fr (done.foldl (fun f o => if o < f then o else f) x))), none] ∧ done.foldl (fun f o => if o < f then o else f) x ∈ x :: xs) (xs := xs) (done := []) ⟨rfl, List.mem_cons_self⟩ (by
          rintro done o ρ ho ⟨rfl, hm⟩
          have ho' : o ∈ x :: xs := List.mem_cons_of_mem _ ho
          have q := hl _ _ ho' hm
          by_cases hlt : o < done.foldl (fun f o => if o < f then o else f) x
          · refine ⟨.next, _, ?_, .inl rfl, rfl, ?_⟩
            · simp [hGp, q, hlt, List.foldl_append]
            · rw [List.foldl_append]; simpa [hlt] using ho'
          · refine ⟨.next, _, ?_, .inl rfl, rfl, ?_⟩
            · simp [hGp, q, hlt, List.foldl_append]
            · rw [List.foldl_append]; simpa [hlt] using hm)
      exact ⟨ρ', e1, e2.1⟩
    obtain ⟨ρ', e1, rfl⟩ := loop
    rw [val_step (d := P_least_of.d) hd rfl, ← hG]
    unfold run
    rw [show P_least_of.d.body = P_least_of.b from rfl]
    rw [show ([T.sq b ((x :: xs).map fr)].map mt).map some ++ List.replicate (P_least_of.d.n - ([T.sq b ((x :: xs).map fr)].map mt).length) none = [some (mt (.sq b ((x :: xs).map fr))), none, none] from rfl]
    rw [ex_seq, s0, bnd_ok, ex_seq, e1, bnd_ok]
    simp [hGp, P_least_of.d]
end
end Mk
set_option maxHeartbeats 4000000
/-! Mk: data.py, greatest.py: what they compute. -/
namespace Mk
open PySem L2
/-! rows and labels, read -/
section
variable (b : Bool) (l : Lab) (row : List Lab)
@[simp] theorem lab_0 : primSem .idx [l.m b, .int 0] = some (mt (.str l.n)) := by simp [Lab.m]
@[simp] theorem lab_1 : primSem .idx [l.m b, .int 1] = some (mt (.int l.w)) := by simp [Lab.m]
@[simp] theorem lab_2 : primSem .idx [l.m b, .int 2] = some (mt (.int l.s)) := by simp [Lab.m]
@[simp] theorem lab_3 : primSem .idx [l.m b, .int 3] = some (mt (.int l.t)) := by simp [Lab.m]
@[simp] theorem row_seq : seqOf (rowT b row) = some (row.map (Lab.m b)) := by simp [rowT]
@[simp] theorem row_len : primSem .len [rowT b row] = some (mt (.int row.length)) := by simp [rowT]
theorem atI_map {α β : Type} (f : α → β) (xs : List α) (i : Int) : atI (xs.map f) i = (atI xs i).map f := by
  unfold atI
  rw [List.length_map]
  cases ixN xs.length i with
  | none => rfl
  | some j => simp
@[simp] theorem row_idx (i : Int) : primSem .idx [rowT b row, .int i] = (atI row i).map fun l => mt (l.m b) := by
  unfold rowT
  rw [ps_idxs, atI_map, Option.map_map]
  rfl
@[simp] theorem row_isS : (rowT b row).isS = false := by simp [rowT]
@[simp] theorem row_isN : (rowT b row).isN = false := by simp [rowT]
end
theorem total_cons (l : Lab) (r : List Lab) : total (l :: r) = l.s + total r := by simp [total]
theorem total_append (a r : List Lab) : total (a ++ r) = total a + total r := by simp [total, List.sum_append]
/-- the sizes ahead of each, and all -/
def aheads (a : Int) : List Lab → List Int
  | [] => [a]
  | l :: r => a :: aheads (a + l.s) r
theorem aheads_len (a : Int) (r : List Lab) : (aheads a r).length = r.length + 1 := by
  induction r generalizing a with
  | nil => rfl
  | cons l r ih => simp [aheads, ih]
theorem aheads_at {a : Int} {r : List Lab} {i : Nat} (h : i ≤ r.length) : (aheads a r)[i]? = some (a + total (r.take i)) := by
  induction r generalizing a i with
  | nil => have : i = 0 := by simpa using h
           subst this; simp [aheads, total]
  | cons l r ih =>
    cases i with
    | zero => simp [aheads, total]
    | succ i =>
      have := ih (a := a + l.s) (i := i) (by simpa using h)
      simp only [aheads, List.getElem?_cons_succ, this, List.take_succ_cons, total_cons]
      congr 1; omega
theorem aheads_snoc (a : Int) (r : List Lab) (l : Lab) : aheads a (r ++ [l]) = aheads a r ++ [a + total r + l.s] := by
  induction r generalizing a with
  | nil => simp [aheads, total]
  | cons x r ih => simp only [List.cons_append, aheads, ih, total_cons]; congr 3; omega
theorem aheads_last (a : Int) (r : List Lab) : atI (aheads a r) (-1) = some (a + total r) := by
  have hne : aheads a r ≠ [] := by cases r <;> simp [aheads]
  rw [atI_last hne]
  have h := aheads_at (a := a) (r := r) (i := r.length) (Nat.le_refl _)
  rw [List.take_length] at h
  rw [List.getLast_eq_getElem]
  have hl := aheads_len a r
  have : (aheads a r)[(aheads a r).length - 1]? = some (a + total r) := by rw [hl]; exact h
  rw [List.getElem?_eq_getElem (by omega)] at this
  exact this
section
variable {D : Defs} {cs : Cons} {fns : Tab}
def SizesOk (fns : Tab) : Prop := ∀ (b : Bool) (row : List Lab), row.length ≤ 100 → valOf fns "sizes_ahead" [rowT b row] = some (.bx (.ls ((aheads 0 row).map .int)))
theorem sizes_ok (hd : D.lookup ("sizes_ahead" : Str) = some P_sizes_ahead.d) : SizesOk (stepT D cs fns) := by
  intro b row hr
  obtain ⟨G, hG⟩ : ∃ G : Gc, G = P_sizes_ahead.d.gc cs fns := ⟨_, rfl⟩
  have hGp : G.pin = [] := by rw [hG]; rfl
  have loop : ex G P_sizes_ahead.s1 [some (mt (rowT b row)), some (.bx (.ls [.int 0])), none] = some (.next, [some (mt (rowT b row)), some (.bx (.ls ((aheads 0 row).map .int))), none]) := by
    rw [ex_for]
    simp only [evI_seq, ev_var, List.getElem?_cons_zero, f1_ok, frz_bx, obd_ok, bnd_ok, frz_fz, row_seq]
    obtain ⟨ρ', e1, e2⟩ := forL_run2 (mk := Lab.m b) (f := fun x ρ => obd ((Tg.nm 2).store G.pin x ρ) fun ρ => ex G P_sizes_ahead.s1bB ρ)
      (fun done ρ => ρ = [some (mt (rowT b row)), some (.bx (.ls ((aheads 0 done).map .int))), none]) (all := row) (xs := row) (done := []) (ρ := [some (mt (rowT b row)), some (.bx (.ls [.int 0])), none]) rfl rfl (by
        rintro done l rest ρ he rfl
        refine ⟨.next, _, ?_, .inl rfl, rfl⟩
        have hl : done.length < row.length := by rw [he]; simp
        have h1 : ((aheads 0 done).map T.int).length < sizeLine := by
          rw [List.length_map, aheads_len]
          have : (1002 : Nat) < sizeLine := by decide
          omega
        have ha := aheads_last 0 done
        rw [st_nm, if_pos ⟨by simp, by rw [hGp]; simp⟩, obd_ok, ex_seq, ex_app_ok (ys := (aheads 0 done).map T.int) (xs := (aheads 0 done).map T.int) (t := .int (0 + total done + l.s)) (ρ' := [some (mt (rowT b row)), some (.bx (.ls ((aheads 0 done).map .int))), some (mt (l.m b))]) rfl (by simp [atI_map, ha]) rfl h1, bnd_ok, aheads_snoc]
        simp)
    rw [e1, e2]
  rw [val_step (d := P_sizes_ahead.d) hd rfl, ← hG]
  have h1 : (1 : Nat) ≤ sizeLine := by decide
  simp [run, P_sizes_ahead.d, hGp, loop, h1]
def full : Option (Int × Int) → List Lab → Bool
  | none, _ => false
  | some (l, h), row => decide (h - l < total row)
def FullOk (fns : Tab) : Prop := ∀ (b c : Bool) (sp : Option (Int × Int)) (row : List Lab), row.length ≤ 100 → valOf fns "is_full" [spT b sp, rowT c row] = some (mt (.bl (full sp row)))
theorem full_ok (hd : D.lookup ("is_full" : Str) = some P_is_full.d) (h1 : SizesOk fns) : FullOk (stepT D cs fns) := by
  intro b c sp row hr
  rw [val_step (d := P_is_full.d) hd rfl]
  have e := h1 c row hr
  cases sp with
  | none => simp [run, P_is_full.d, Df.gc, full]
  | some p => simp [run, P_is_full.d, Df.gc, full, e, atI_map, aheads_last]
def CheckOk (fns : Tab) : Prop := ∀ (b c : Bool) (sp : Option (Int × Int)) (row : List Lab), row.length ≤ 100 → full sp row = false → valOf fns "check_full" [spT b sp, rowT c row] = some (mt .non)
theorem check_ok (hd : D.lookup ("check_full" : Str) = some P_check_full.d) (h1 : FullOk fns) : CheckOk (stepT D cs fns) := by
  intro b c sp row hr hf
  rw [val_step (d := P_check_full.d) hd rfl]
  have e := h1 b c sp row hr
  simp [run, P_check_full.d, Df.gc, e, hf]
def halfUp (n : Int) : Int := -(-n / 2)
def HalfOk (fns : Tab) : Prop := ∀ n : Int, valOf fns "half_up" [.int n] = some (mt (.int (halfUp n)))
theorem half_ok (hd : D.lookup ("half_up" : Str) = some P_half_up.d) : HalfOk (stepT D cs fns) := by
  intro n
  rw [val_step (d := P_half_up.d) hd rfl]
  have e := ps_fdiv (a := -n) (b := 2) (by decide) (by decide)
  simp [run, P_half_up.d, Df.gc, e, halfUp]
/-- reasons -/
inductive Rsn where
  | push (i j : Nat) | low (j : Nat) | high (i : Nat)
def Rsn.m (b : Bool) : Rsn → T
  | .push i j => .sq b [.str "push", .int i, .int j]
  | .low j => .sq b [.str "low", .int j]
  | .high i => .sq b [.str "high", .int i]
def pushL (n : Nat) : List Rsn := ((List.range n).map fun i => (List.range (n - i)).map fun k => Rsn.push i (i + k)).flatten
def rsnL (sp : Option (Int × Int)) (n : Nat) : List Rsn := (if sp.isSome then (List.range n).map Rsn.high ++ (List.range n).map Rsn.low else []) ++ pushL n
structure ConsOk (cs : Cons) : Prop where
  p : cs "PUSH" = some (.str "push")
  l : cs "LOW" = some (.str "low")
  h : cs "HIGH" = some (.str "high")
theorem pushL_len (n : Nat) : (pushL n).length ≤ n * n := by
  unfold pushL
  rw [List.length_flatten, List.map_map]
  have : ∀ xs : List Nat, ((xs.map (List.length ∘ fun i => (List.range (n - i)).map fun k => Rsn.push i (i + k)))).sum ≤ xs.length * n := by
    intro xs
    induction xs with
    | nil => simp
    | cons x xs ih => simp only [List.map_cons, List.sum_cons, Function.comp, List.length_map, List.length_range, List.length_cons, Nat.add_mul] at ih ⊢; omega
  simpa using this (List.range n)
def rsnM (sp : Option (Int × Int)) (n : Nat) : M := if sp.isSome then .bx (.ls ((rsnL sp n).map (Rsn.m false))) else mt (.lst ((rsnL sp n).map (Rsn.m false)))
@[simp] theorem rsnM_frz (sp : Option (Int × Int)) (n : Nat) : (rsnM sp n).frz = some (.lst ((rsnL sp n).map (Rsn.m false))) := by unfold rsnM; split <;> rfl
def ReasonsOk (fns : Tab) : Prop := ∀ (b c : Bool) (sp : Option (Int × Int)) (row : List Lab), row.length ≤ 100 → valOf fns "reasons" [spT b sp, rowT c row] = some (rsnM sp row.length)
theorem reasons_ok (hc : ConsOk cs) (hd : D.lookup ("reasons" : Str) = some P_reasons.d) : ReasonsOk (stepT D cs fns) := by
  intro b c sp row hr
  rw [val_step (d := P_reasons.d) hd rfl]
  have hl : (pushL row.length).length ≤ 10000 := by
    have := pushL_len row.length
    have h2 : row.length * row.length ≤ 100 * 100 := Nat.mul_le_mul hr hr
    omega
  have hr2 : rangeT 0 (row.length : Int) = _ := rangeT_nat (n := row.length) (by omega)
  have inner : ∀ i ∈ List.range row.length, rangeT (i : Int) (row.length : Int) = some ((List.range (row.length - i)).map fun k => T.int ((i + k : Nat) : Int)) := fun i hi => rangeT_nat2 (by omega) (by have := List.mem_range.mp hi; omega)
  have push : mapO (fun (a : Nat) => obd (rangeT (a : Int) (row.length : Int)) fun zs => some (zs.map fun z => T.tup [T.str "push", T.int a, z])) (List.range row.length) = some ((List.range row.length).map fun i => (List.range (row.length - i)).map fun k => (Rsn.push i (i + k)).m false) :=
    mapO_ok _ fun i hi => by rw [inner i hi]; simp [Rsn.m]
  have hfl : ((List.range row.length).map fun i => (List.range (row.length - i)).map fun k => (Rsn.push i (i + k)).m false).flatten = (pushL row.length).map (Rsn.m false) := by
    simp [pushL, List.map_flatten, Function.comp_def]
  have hsum : (List.map List.length ((List.range row.length).map fun i => (List.range (row.length - i)).map fun k => (Rsn.push i (i + k)).m false)).sum = (pushL row.length).length := by
    rw [← List.length_flatten, hfl, List.length_map]
  cases sp with
  | none =>
    simp [run, P_reasons.d, Df.gc, ev_comp2z, turn2V_eq, turnV_eq, hc.p, evI_r1, evI_r2, hr2]
    rw [push, obd_ok, hsum, szO_ok (by omega), hfl]
    simp [rsnM, rsnL]
  | some p =>
    simp [run, P_reasons.d, Df.gc, ev_comp2z, turn2V_eq, turnV_eq, hc.p, hc.l, hc.h, evI_r1, evI_r2, hr2, ev_compq, ps_addz]
    rw [push, obd_ok, hsum, szO_ok (by omega), hfl]
    rw [szO_ok (by omega), szO_ok (by omega)]
    simp [rsnM, rsnL, Function.comp_def, Rsn.m]
/-- the sizes ahead of one -/
def ah (row : List Lab) (i : Nat) : Int := total (row.take i)
/-- a reason of this space and row -/
def Rsn.In (sp : Option (Int × Int)) (n : Nat) : Rsn → Prop
  | .push i j => i ≤ j ∧ j < n
  | .low j => sp ≠ none ∧ j < n
  | .high i => sp ≠ none ∧ i < n
/-- the wish of one -/
def wi (row : List Lab) (i : Nat) : Int := ((row[i]?).map (·.w)).getD 0
def showsV (sp : Option (Int × Int)) (row : List Lab) : Rsn → Int
  | .push i j => halfUp (wi row i + ah row j - ah row i - wi row j)
  | .low j => (sp.getD (0, 0)).1 + ah row j - wi row j
  | .high i => wi row i + total row - ah row i - (sp.getD (0, 0)).2
theorem aheads_idx {row : List Lab} {i : Nat} (h : i ≤ row.length) : atI (aheads 0 row) (i : Int) = some (ah row i) := by
  have := aheads_at (a := 0) h
  rw [atI_nat (by rw [aheads_len]; omega), ← List.getElem?_eq_getElem, this, Int.zero_add]
  rfl
theorem wi_at {row : List Lab} {i : Nat} (h : i < row.length) : wi row i = row[i].w := by simp [wi, h]
def ShowsOk (fns : Tab) : Prop := ∀ (b c d : Bool) (sp : Option (Int × Int)) (row : List Lab) (r : Rsn), row.length ≤ 100 → r.In sp row.length → valOf fns "shows" [spT b sp, rowT c row, r.m d] = some (mt (.int (showsV sp row r)))
theorem shows_ok (hc : ConsOk cs) (hd : D.lookup ("shows" : Str) = some P_shows.d) (h1 : SizesOk fns) (h2 : HalfOk fns) : ShowsOk (stepT D cs fns) := by
  intro b c d sp row r hr hi
  rw [val_step (d := P_shows.d) hd rfl]
  have e1 := h1 c row hr
  have hh := fun n => h2 n
  have ne1 : ¬ (("high" : Str) = "low") := by decide +kernel
  have ne2 : ¬ (("push" : Str) = "low") := by decide +kernel
  have ne3 : ¬ (("push" : Str) = "high") := by decide +kernel
  have hla := aheads_last 0 row
  cases r with
  | low j =>
    obtain ⟨hs, hj⟩ := hi
    cases sp with
    | none => exact absurd rfl hs
    | some p =>
      have ej := aheads_idx (row := row) (i := j) (by omega)
      have er : atI row (j : Int) = some row[j] := atI_nat hj
      simp [run, P_shows.d, Df.gc, e1, Rsn.m, hc.l, atI_map, ej, er, showsV, wi_at hj]
  | high i =>
    obtain ⟨hs, hj⟩ := hi
    cases sp with
    | none => exact absurd rfl hs
    | some p =>
      have ej := aheads_idx (row := row) (i := i) (by omega)
      have er : atI row (i : Int) = some row[i] := atI_nat hj
      simp [run, P_shows.d, Df.gc, e1, Rsn.m, hc.l, hc.h, ne1, atI_map, ej, er, showsV, wi_at hj, hla]
  | push i j =>
    obtain ⟨hij, hj⟩ := hi
    have hi : i < row.length := by omega
    have ei := aheads_idx (row := row) (i := i) (by omega)
    have ej := aheads_idx (row := row) (i := j) (by omega)
    have eri : atI row (i : Int) = some row[i] := atI_nat hi
    have erj : atI row (j : Int) = some row[j] := atI_nat hj
    have c1 : ∀ x y z : T, cutT [x, y, z] (some 1) none = [y, z] := fun x y z => cut_from [x, y, z] 1
    cases d <;> simp [run, P_shows.d, Df.gc, e1, Rsn.m, hc.l, hc.h, ne1, ne2, ne3, atI_map, ei, ej, eri, erj, showsV, wi_at hi, wi_at hj, c1, hh]
def ShownOk (fns : Tab) : Prop := ∀ (b c d : Bool) (sp : Option (Int × Int)) (row : List Lab) (r : Rsn), row.length ≤ 100 → full sp row = false → r.In sp row.length → valOf fns "shown" [spT b sp, rowT c row, r.m d] = some (mt (.int (showsV sp row r)))
theorem shown_ok (hd : D.lookup ("shown" : Str) = some P_shown.d) (h1 : CheckOk fns) (h2 : ShowsOk fns) : ShownOk (stepT D cs fns) := by
  intro b c d sp row r hr hf hi
  rw [val_step (d := P_shown.d) hd rfl]
  have e1 := h1 b c sp row hr hf
  have e2 := h2 b c d sp row r hr hi
  simp [run, P_shown.d, Df.gc, e1, e2]
theorem push_in {n : Nat} {r : Rsn} : r ∈ pushL n ↔ ∃ i j, r = .push i j ∧ i ≤ j ∧ j < n := by
  unfold pushL
  constructor
  · intro h
    obtain ⟨l, hl, hr⟩ := List.mem_flatten.mp h
    obtain ⟨i, hi, rfl⟩ := List.mem_map.mp hl
    obtain ⟨k, hk, rfl⟩ := List.mem_map.mp hr
    have := List.mem_range.mp hi
    have := List.mem_range.mp hk
    exact ⟨i, i + k, rfl, by omega, by omega⟩
  · rintro ⟨i, j, rfl, h1, h2⟩
    refine List.mem_flatten.mpr ⟨_, List.mem_map.mpr ⟨i, List.mem_range.mpr (by omega), rfl⟩, List.mem_map.mpr ⟨j - i, List.mem_range.mpr (by omega), ?_⟩⟩
    rw [show i + (j - i) = j by omega]
theorem rsn_in {sp : Option (Int × Int)} {n : Nat} {r : Rsn} : r ∈ rsnL sp n ↔ r.In sp n := by
  unfold rsnL
  rw [List.mem_append, push_in]
  cases r with
  | push i j =>
    have : (∃ a b, Rsn.push i j = .push a b ∧ a ≤ b ∧ b < n) ↔ i ≤ j ∧ j < n := ⟨fun ⟨a, b, e, h⟩ => by cases e; exact h, fun h => ⟨i, j, rfl, h⟩⟩
    rw [this]
    cases sp <;> simp [Rsn.In]
  | low j => cases sp <;> simp [Rsn.In]
  | high i => cases sp <;> simp [Rsn.In]
theorem rsn_ne (sp : Option (Int × Int)) {n : Nat} (h : 0 < n) : rsnL sp n ≠ [] := by
  intro e
  have : Rsn.push 0 0 ∈ rsnL sp n := rsn_in.2 ⟨Nat.le_refl _, h⟩
  rw [e] at this; cases this
/-- the least far: the greatest that is shown -/
def leastV (sp : Option (Int × Int)) (row : List Lab) : Int := maxL ((rsnL sp row.length).map (showsV sp row))
theorem ps_max1 {vs : List Int} (h : vs ≠ []) : primSem .max1 [.lst (vs.map .int)] = some (mt (.int (maxL vs))) := by
  show (intsT (vs.map .int)).bind _ = _
  rw [intsT_map]
  exact if_pos (List.length_pos_iff.mpr h)
theorem shows_map (h2 : ShowsOk fns) (b c : Bool) (sp : Option (Int × Int)) {row : List Lab} (hr : row.length ≤ 100) {rs : List Rsn} (hrs : ∀ r ∈ rs, r.In sp row.length) :
    filterO (fun r : Rsn => obd (valOf fns "shows" [spT b sp, rowT c row, r.m false]) fun m => obd m.frz fun t => some (some t)) rs = some ((rs.map (showsV sp row)).map .int) := by
  rw [List.map_map]
  exact filterO_map_ok _ fun r hr' => by rw [h2 b c false sp row r hr (hrs r hr')]; rfl
def LeastFarOk (fns : Tab) : Prop := ∀ (b c : Bool) (sp : Option (Int × Int)) (row : List Lab), 0 < row.length → row.length ≤ 100 → valOf fns "least_far" [spT b sp, rowT c row] = some (mt (.int (leastV sp row)))
theorem least_far_ok (hd : D.lookup ("least_far" : Str) = some P_least_far.d) (h1 : ReasonsOk fns) (h2 : ShowsOk fns) : LeastFarOk (stepT D cs fns) := by
  intro b c sp row h0 hr
  rw [val_step (d := P_least_far.d) hd rfl]
  have e1 := h1 b c sp row hr
  have e2 := shows_map h2 b c sp hr (rs := rsnL sp row.length) fun r h => rsn_in.1 h
  have e3 := ps_max1 (vs := (rsnL sp row.length).map (showsV sp row)) (by simpa using rsn_ne sp h0)
  rw [List.map_map] at e2 e3
  simp [run, P_least_far.d, Df.gc, ev_compq, turnV_eq, e1, e2, e3, leastV]
def LeastOk (fns : Tab) : Prop := ∀ (b c : Bool) (sp : Option (Int × Int)) (row : List Lab), 0 < row.length → row.length ≤ 100 → full sp row = false → valOf fns "least_greatest" [spT b sp, rowT c row] = some (mt (.int (leastV sp row)))
theorem least_ok (hd : D.lookup ("least_greatest" : Str) = some P_least_greatest.d) (h1 : CheckOk fns) (h2 : LeastFarOk fns) : LeastOk (stepT D cs fns) := by
  intro b c sp row h0 hr hf
  rw [val_step (d := P_least_greatest.d) hd rfl]
  have e1 := h1 b c sp row hr hf
  have e2 := h2 b c sp row h0 hr
  simp [run, P_least_greatest.d, Df.gc, e1, e2]
/-- the first reason that shows as much -/
def firstV (sp : Option (Int × Int)) (row : List Lab) : Rsn := (((rsnL sp row.length).filter fun r => showsV sp row r == leastV sp row)[0]?).getD (.push 0 0)
theorem first_ne (sp : Option (Int × Int)) {row : List Lab} (h : 0 < row.length) : ((rsnL sp row.length).filter fun r => showsV sp row r == leastV sp row) ≠ [] := by
  have := maxL_mem (ns := (rsnL sp row.length).map (showsV sp row)) (List.length_pos_iff.mpr (by simpa using rsn_ne sp h))
  obtain ⟨r, hr, e⟩ := List.mem_map.mp this
  intro z
  have : r ∈ ((rsnL sp row.length).filter fun r => showsV sp row r == leastV sp row) := List.mem_filter.mpr ⟨hr, by rw [e]; exact beq_self_eq_true _⟩
  rw [z] at this; cases this
def GreatestReasonOk (fns : Tab) : Prop := ∀ (b c : Bool) (sp : Option (Int × Int)) (row : List Lab), 0 < row.length → row.length ≤ 100 → full sp row = false → valOf fns "greatest_reason" [spT b sp, rowT c row] = some (mt ((firstV sp row).m false))
theorem greatest_reason_ok (hd : D.lookup ("greatest_reason" : Str) = some P_greatest_reason.d) (h1 : LeastOk fns) (h2 : ReasonsOk fns) (h3 : ShowsOk fns) : GreatestReasonOk (stepT D cs fns) := by
  intro b c sp row h0 hr hf
  rw [val_step (d := P_greatest_reason.d) hd rfl]
  have e1 := h1 b c sp row h0 hr hf
  have e2 := h2 b c sp row hr
  have e3 : filterO (fun r : Rsn => obd (valOf fns "shows" [spT b sp, rowT c row, r.m false]) fun m => obd m.frz fun t => obd (primSem .eq [t, .int (leastV sp row)]) fun m => obd m.frz fun t => obd (tru t) fun k => if k = true then some (some (r.m false)) else some none) (rsnL sp row.length) =
      some (((rsnL sp row.length).filter fun r => showsV sp row r == leastV sp row).map (Rsn.m false)) :=
    filterO_if_ok _ _ fun r hr' => by
      rw [h3 b c false sp row r hr (rsn_in.1 hr')]
      simp
      split <;> rfl
  have ne := first_ne sp h0
  cases q : ((rsnL sp row.length).filter fun r => showsV sp row r == leastV sp row) with
  | nil => exact absurd q ne
  | cons x xs =>
    rw [q] at e3
    have ef : firstV sp row = x := by unfold firstV; rw [q]; rfl
    simp [run, P_greatest_reason.d, Df.gc, ev_compq, turnV_eq, e1, e2, e3, ef]
end
end Mk
set_option maxHeartbeats 4000000
/-! Mk: the class Line and best. -/
namespace Mk
open PySem L2
section
variable {D : Defs} {cs : Cons} {fns : Tab}
mutual
/-- all lists made tuples -/
def T.tu : T → T
  | .tup xs => .tup (T.tus xs)
  | .lst xs => .tup (T.tus xs)
  | x => x
def T.tus : List T → List T
  | [] => []
  | x :: xs => x.tu :: T.tus xs
end
theorem tus_map : ∀ xs : List T, T.tus xs = xs.map T.tu
  | [] => rfl
  | x :: xs => by unfold T.tus; rw [tus_map xs]; rfl
@[simp] theorem tu_tup (xs : List T) : T.tu (.tup xs) = .tup (xs.map T.tu) := by show T.tup (T.tus xs) = _; rw [tus_map]
@[simp] theorem tu_lst (xs : List T) : T.tu (.lst xs) = .tup (xs.map T.tu) := by show T.tup (T.tus xs) = _; rw [tus_map]
@[simp] theorem tu_sq (b : Bool) (xs : List T) : T.tu (.sq b xs) = .tup (xs.map T.tu) := by cases b <;> simp
@[simp] theorem tu_int (i : Int) : T.tu (.int i) = .int i := id rfl
@[simp] theorem tu_str (s : Str) : T.tu (.str s) = .str s := id rfl
@[simp] theorem tu_non : T.tu .non = .non := id rfl
def TupledOk (n : Nat) (fns : Tab) : Prop := ∀ x : T, x.fl n = true → valOf fns "tupled" [x] = some (mt x.tu)
theorem tupled_ok (hd : D.lookup ("tupled" : Str) = some P_tupled.d) : ∀ {n : Nat} {fns : Tab}, (∀ k, n = k + 1 → TupledOk k fns) → TupledOk n (stepT D cs fns) := by
  intro n fns ih x h
  rw [val_step (d := P_tupled.d) hd rfl]
  have seq : ∀ {xs : List T}, (∀ k, n = k + 1 → ∀ x ∈ xs, x.fl k = true) → 0 < n → filterO (fun x => obd (valOf fns "tupled" [x]) fun x => obd x.frz fun x => some (some x)) xs = some (xs.map T.tu) := by
    intro xs hx h0
    obtain ⟨k, rfl⟩ : ∃ k, n = k + 1 := ⟨n - 1, by omega⟩
    refine filterO_map_ok _ fun y hy => ?_
    rw [ih k rfl y (hx k rfl y hy), obd_ok]
    rfl
  cases x with
  | non => simp [run, P_tupled.d, Df.gc, Ty.isA]
  | bl b => simp [run, P_tupled.d, Df.gc, Ty.isA]; rfl
  | int b => simp [run, P_tupled.d, Df.gc, Ty.isA]
  | str b => simp [run, P_tupled.d, Df.gc, Ty.isA]
  | tup xs =>
    have h0 : 0 < n := by cases n with | zero => cases h | succ n => omega
    have q := seq (xs := xs) (fun k e x hx => by subst e; exact (fl_tup k xs).1 h x hx) h0
    simp [run, P_tupled.d, Df.gc, Ty.isA, ev_compq, turnV_eq, q]
  | lst xs =>
    have h0 : 0 < n := by cases n with | zero => cases h | succ n => omega
    have q := seq (xs := xs) (fun k e x hx => by subst e; exact (fl_lst k xs).1 h x hx) h0
    simp [run, P_tupled.d, Df.gc, Ty.isA, ev_compq, turnV_eq, q]
  | _ => cases n <;> exact Bool.noConfusion (show false = true from h)
@[simp] theorem lab_tu (b : Bool) (l : Lab) : (l.m b).tu = l.m false := by simp [Lab.m]
@[simp] theorem row_tu (b : Bool) (row : List Lab) : (rowT b row).tu = rowT false row := by simp [rowT, Function.comp_def]
@[simp] theorem sp_tu (b : Bool) (s : Option (Int × Int)) : (spT b s).tu = spT false s := by cases s <;> simp
/-! ### the object -/
def lineF (sp : Option (Int × Int)) (row : List Lab) : List T := [spT false sp, rowT false row, .lst ((aheads 0 row).map .int)]
def lineT (ci : ClsI) (sp : Option (Int × Int)) (row : List Lab) : T := .ob ci (lineF sp row)
variable {ci : ClsI}
theorem clsM {pin : List Nat} {cn : Str} (hc : cs cn = some (.cl ci)) : clsC ⟨cs, fns, pin⟩ cn = some ci := clsC_of hc
def ManyOk (ci : ClsI) (fns : Tab) : Prop := ∀ sp row, valOf fns "Line.many" [lineT ci sp row] = some (mt (.int row.length))
theorem many_ok (hc : cs "Line" = some (.cl ci)) (hd : D.lookup ("Line.many" : Str) = some P_Line_many.d) : ManyOk ci (stepT D cs fns) := by
  intro sp row
  have c : clsC ⟨cs, fns, []⟩ "Line" = some ci := clsM hc
  rw [val_step (d := P_Line_many.d) hd rfl]
  simp [run, P_Line_many.d, Df.gc, ev_fld, c, fldK, lineT, lineF, rowT]
def AheadOk (ci : ClsI) (fns : Tab) : Prop := ∀ sp row (i : Nat), i ≤ row.length → valOf fns "Line.ahead" [lineT ci sp row, .int (i : Int)] = some (mt (.int (ah row i)))
theorem ahead_ok (hc : cs "Line" = some (.cl ci)) (hd : D.lookup ("Line.ahead" : Str) = some P_Line_ahead.d) : AheadOk ci (stepT D cs fns) := by
  intro sp row i hi
  have c : clsC ⟨cs, fns, []⟩ "Line" = some ci := clsM hc
  rw [val_step (d := P_Line_ahead.d) hd rfl]
  simp [run, P_Line_ahead.d, Df.gc, ev_fidx, E.vs, c, fldV, lineT, lineF, pIdx, atI_map, aheads_idx hi]
def lowE (sp : Option (Int × Int)) : T := match sp with
  | none => .non
  | some p => .tup [.int p.1, .int 1]
def highE (sp : Option (Int × Int)) (row : List Lab) : T := match sp with
  | none => .non
  | some p => .tup [.int (p.2 - total row), .int 1]
def LowEOk (ci : ClsI) (fns : Tab) : Prop := ∀ sp row, valOf fns "Line.low" [lineT ci sp row] = some (mt (lowE sp))
theorem lowE_ok (hc : cs "Line" = some (.cl ci)) (hd : D.lookup ("Line.low" : Str) = some P_Line_low.d) : LowEOk ci (stepT D cs fns) := by
  intro sp row
  have c : clsC ⟨cs, fns, []⟩ "Line" = some ci := clsM hc
  rw [val_step (d := P_Line_low.d) hd rfl]
  cases sp with
  | none => simp [run, P_Line_low.d, Df.gc, ev_fld, c, fldK, lineT, lineF, lowE]
  | some p => simp [run, P_Line_low.d, Df.gc, ev_fld, c, fldK, lineT, lineF, lowE]
def HighEOk (ci : ClsI) (fns : Tab) : Prop := ∀ sp row, valOf fns "Line.high" [lineT ci sp row] = some (mt (highE sp row))
theorem highE_ok (hc : cs "Line" = some (.cl ci)) (hd : D.lookup ("Line.high" : Str) = some P_Line_high.d) : HighEOk ci (stepT D cs fns) := by
  intro sp row
  have c : clsC ⟨cs, fns, []⟩ "Line" = some ci := clsM hc
  rw [val_step (d := P_Line_high.d) hd rfl]
  cases sp with
  | none => simp [run, P_Line_high.d, Df.gc, ev_fld, c, fldK, lineT, lineF, highE]
  | some p => simp [run, P_Line_high.d, Df.gc, ev_fld, ev_fidx, E.vs, Es.vs, c, fldK, fldV, lineT, lineF, highE, pIdx, atI_map, aheads_last]
/-! ### means -/
def wtA (row : List Lab) (i : Nat) : Int := ((row[i]?).map (·.t)).getD 0
theorem wtA_at {row : List Lab} {i : Nat} (h : i < row.length) : wtA row i = row[i].t := by simp [wtA, h]
/-- weight and want of each -/
def items (row : List Lab) : List (Int × Int) := (List.range row.length).map fun i => (wtA row i, wi row i - ah row i)
theorem items_len (row : List Lab) : (items row).length = row.length := by simp [items]
def sumW (xs : List (Int × Int)) : Int := (xs.map (·.1)).sum
def sumS (xs : List (Int × Int)) : Int := (xs.map fun p => p.1 * p.2).sum
def seg {α : Type} (xs : List α) (f l : Nat) : List α := (xs.drop f).take (l + 1 - f)
theorem seg_range {α : Type} (g : Nat → α) {n f l : Nat} (h : l < n) : seg ((List.range n).map g) f l = (List.range (l + 1 - f)).map fun i => g (f + i) := by
  unfold seg
  apply List.ext_getElem?
  intro i
  rw [List.getElem?_take]
  by_cases hi : i < l + 1 - f
  · rw [if_pos hi, List.getElem?_drop, List.getElem?_map, List.getElem?_map, List.getElem?_range (by omega), List.getElem?_range hi]
    rfl
  · rw [if_neg hi, List.getElem?_map, List.getElem?_eq_none (by rw [List.length_range]; omega)]
    rfl
theorem seg_row {row : List Lab} {f l : Nat} (h : l < row.length) : (seg row f l).map (·.t) = (List.range (l + 1 - f)).map fun i => wtA row (f + i) := by
  have e : row.map (·.t) = (List.range row.length).map (wtA row) := by
    apply List.ext_getElem
    · simp
    · intro i h1 h2
      simp at h1
      simp [wtA_at h1]
  have := seg_range (wtA row) (f := f) h
  rw [← e] at this
  rw [← this]
  simp [seg, List.map_take, List.map_drop]
def weightV (row : List Lab) (f l : Nat) : Int := sumW (seg (items row) f l)
def drawnV (row : List Lab) (f l : Nat) : Int := sumS (seg (items row) f l)
def meanV (row : List Lab) (f l : Nat) : Rat := Rat.divInt (drawnV row f l) (weightV row f l)
theorem weightV_eq {row : List Lab} {f l : Nat} (h : l < row.length) : weightV row f l = ((List.range (l + 1 - f)).map fun i => wtA row (f + i)).sum := by
  unfold weightV sumW items
  rw [seg_range _ h, List.map_map]
  rfl
theorem drawnV_eq {row : List Lab} {f l : Nat} (h : l < row.length) : drawnV row f l = ((List.range (l + 1 - f)).map fun i => wtA row (f + i) * (wi row (f + i) - ah row (f + i))).sum := by
  unfold drawnV sumS items
  rw [seg_range _ h, List.map_map]
  rfl
def WeightOk (ci : ClsI) (fns : Tab) : Prop := ∀ sp row (f l : Nat), f ≤ l → l < row.length → valOf fns "Line.weight" [lineT ci sp row, .int (f : Int), .int (l : Int)] = some (mt (.int (weightV row f l)))
theorem weight_ok (hc : cs "Line" = some (.cl ci)) (hd : D.lookup ("Line.weight" : Str) = some P_Line_weight.d) : WeightOk ci (stepT D cs fns) := by
  intro sp row f l hf hl
  have c : clsC ⟨cs, fns, []⟩ "Line" = some ci := clsM hc
  have k : cutT (row.map (Lab.m false)) (some (f : Int)) (some ((l : Int) + 1)) = (seg row f l).map (Lab.m false) := by
    rw [show (l : Int) + 1 = ((l + 1 : Nat) : Int) from rfl, cut_both _ _ _ (by omega)]
    simp [seg, List.map_take, List.map_drop]
  have e := ps_sum ((seg row f l).map (·.t))
  simp only [List.map_map, Function.comp_def] at e
  rw [val_step (d := P_Line_weight.d) hd rfl, weightV_eq hl, ← seg_row hl]
  simp [run, P_Line_weight.d, Df.gc, ev_fld, c, fldK, lineT, lineF, rowT, k, ev_compq, turnV_eq, Lab.m, e]
def Small (row : List Lab) : Prop := row.length ≤ 100 ∧ ∀ l ∈ row, 1 ≤ l.t ∧ l.t ≤ 1000 ∧ -1000000 ≤ l.w ∧ l.w ≤ 1000000 ∧ 0 ≤ l.s ∧ l.s ≤ 1000
def DrawnOk (ci : ClsI) (fns : Tab) : Prop := ∀ sp row (f l : Nat), Small row → f ≤ l → l < row.length → valOf fns "Line.drawn" [lineT ci sp row, .int (f : Int), .int (l : Int)] = some (mt (.int (drawnV row f l)))
theorem drawn_ok (hc : cs "Line" = some (.cl ci)) (hd : D.lookup ("Line.drawn" : Str) = some P_Line_drawn.d) : DrawnOk ci (stepT D cs fns) := by
  intro sp row f l hs hf hl
  have h100 := hs.1
  have c : clsC ⟨cs, fns, []⟩ "Line" = some ci := clsM hc
  have k : rangeT (f : Int) ((l : Int) + 1) = some ((List.range (l + 1 - f)).map fun (i : Nat) => T.int ((f + i : Nat) : Int)) := rangeT_nat2 (m := f) (n := l + 1) (by omega) (by omega)
  have e := ps_sum ((List.range (l + 1 - f)).map fun i => wtA row (f + i) * (wi row (f + i) - ah row (f + i)))
  simp only [List.map_map, Function.comp_def] at e
  rw [val_step (d := P_Line_drawn.d) hd rfl, drawnV_eq hl]
  simp [run, P_Line_drawn.d, Df.gc, ev_fld, ev_fidx, E.vs, Es.vs, c, fldK, fldV, lineT, lineF, rowT, evI_r2, k, ev_compq, turnV_eq]
  rw [filterO_map_ok (fun i => T.int (wtA row (f + i) * (wi row (f + i) - ah row (f + i)))) fun a ha => ?_, obd_ok, e, obd_ok]
  have hlt : f + a < row.length := by have := List.mem_range.mp ha; omega
  have e1 : atI (row.map (Lab.m false)) ((f : Int) + (a : Int)) = some ((row[f + a]).m false) := by
    rw [show (f : Int) + (a : Int) = ((f + a : Nat) : Int) from rfl, atI_nat (by simpa using hlt)]
    simp
  have e2 : atI ((aheads 0 row).map T.int) ((f : Int) + (a : Int)) = some (.int (ah row (f + a))) := by
    rw [show (f : Int) + (a : Int) = ((f + a : Nat) : Int) from rfl, atI_map, aheads_idx (by omega)]
    rfl
  have ht := hs.2 _ (List.getElem_mem hlt)
  have m := ps_mul1 (a := row[f + a].t) (b := row[f + a].w - ah row (f + a)) (by omega)
  simp [e1, e2, pIdx, Lab.m, m, wtA_at hlt, wi_at hlt]
theorem sum_abs {B : Nat} : ∀ {xs : List Int}, (∀ x ∈ xs, x.natAbs ≤ B) → xs.sum.natAbs ≤ xs.length * B
  | [], _ => by simp
  | x :: xs, h => by
    have h1 := h x List.mem_cons_self
    have h2 := sum_abs (xs := xs) fun y hy => h y (List.mem_cons_of_mem _ hy)
    rw [List.sum_cons, List.length_cons, Nat.add_mul]
    omega
theorem sum_pos : ∀ {xs : List Int}, (∀ x ∈ xs, 1 ≤ x) → (xs.length : Int) ≤ xs.sum
  | [], _ => by simp
  | x :: xs, h => by
    have h1 := h x List.mem_cons_self
    have h2 := sum_pos (xs := xs) fun y hy => h y (List.mem_cons_of_mem _ hy)
    rw [List.sum_cons, List.length_cons]
    omega
theorem total_small {row : List Lab} (h : Small row) : 0 ≤ total row ∧ total row ≤ 100000 := by
  have h1 := sum_abs (B := 1000) (xs := row.map (·.s)) fun x hx => by
    obtain ⟨l, hl, rfl⟩ := List.mem_map.mp hx
    have := h.2 l hl
    omega
  have h0 : ∀ {xs : List Int}, (∀ x ∈ xs, 0 ≤ x) → 0 ≤ xs.sum := fun {xs} => by
    induction xs with
    | nil => simp
    | cons x xs ih => intro h; rw [List.sum_cons]; have := h x List.mem_cons_self; have := ih fun y hy => h y (List.mem_cons_of_mem _ hy); omega
  have h2 : 0 ≤ (row.map (·.s)).sum := h0 fun x hx => by
    obtain ⟨l, hl, rfl⟩ := List.mem_map.mp hx
    exact (h.2 l hl).2.2.2.2.1
  rw [List.length_map] at h1
  have h3 : row.length * 1000 ≤ 100 * 1000 := Nat.mul_le_mul_right _ h.1
  unfold total
  omega
theorem Small.take {row : List Lab} (h : Small row) (i : Nat) : Small (row.take i) := ⟨Nat.le_trans (by rw [List.length_take]; omega) h.1, fun l hl => h.2 l (List.mem_of_mem_take hl)⟩
theorem ah_small {row : List Lab} (h : Small row) (i : Nat) : 0 ≤ ah row i ∧ ah row i ≤ 100000 := total_small (h.take i)
theorem weightV_small {row : List Lab} {f l : Nat} (h : Small row) (hf : f ≤ l) (hl : l < row.length) : 1 ≤ weightV row f l ∧ weightV row f l ≤ 100000 := by
  have h100 := h.1
  rw [weightV_eq hl]
  have at_ : ∀ x ∈ (List.range (l + 1 - f)).map (fun i => wtA row (f + i)), 1 ≤ x ∧ x ≤ 1000 := fun x hx => by
    obtain ⟨i, hi, rfl⟩ := List.mem_map.mp hx
    have hlt : f + i < row.length := by have := List.mem_range.mp hi; omega
    have := h.2 _ (List.getElem_mem hlt)
    show 1 ≤ wtA row (f + i) ∧ wtA row (f + i) ≤ 1000
    rw [wtA_at hlt]
    omega
  have h1 := sum_abs (B := 1000) fun x hx => by have := at_ x hx; omega
  have h2 := sum_pos fun x hx => (at_ x hx).1
  rw [List.length_map, List.length_range] at h1 h2
  have h3 : (l + 1 - f) * 1000 ≤ 100 * 1000 := Nat.mul_le_mul_right _ (by omega)
  omega
theorem drawnV_small {row : List Lab} {f l : Nat} (h : Small row) (hl : l < row.length) : (drawnV row f l).natAbs ≤ 110000000000 := by
  have h100 := h.1
  rw [drawnV_eq hl]
  have h1 := sum_abs (B := 1100000000) (xs := (List.range (l + 1 - f)).map (fun i => wtA row (f + i) * (wi row (f + i) - ah row (f + i)))) fun x hx => by
    obtain ⟨i, hi, rfl⟩ := List.mem_map.mp hx
    have hlt : f + i < row.length := by have := List.mem_range.mp hi; omega
    have q := h.2 _ (List.getElem_mem hlt)
    have a := ah_small h (f + i)
    show (wtA row (f + i) * (wi row (f + i) - ah row (f + i))).natAbs ≤ _
    rw [wtA_at hlt, wi_at hlt, Int.natAbs_mul]
    exact Nat.mul_le_mul (show _ ≤ 1000 by omega) (show _ ≤ 1100000 by omega)
  rw [List.length_map, List.length_range] at h1
  have h3 : (l + 1 - f) * 1100000000 ≤ 100 * 1100000000 := Nat.mul_le_mul_right _ (by omega)
  omega
theorem meanV_sm {row : List Lab} {f l : Nat} (h : Small row) (hf : f ≤ l) (hl : l < row.length) : Sm 40 17 (meanV row f l) := by
  have h1 := weightV_small h hf hl
  have h2 := drawnV_small (f := f) h hl
  exact sm_divInt (by omega) (by omega) (by omega)
def MeanOk (ci : ClsI) (fns : Tab) : Prop := ∀ sp row (f l : Nat), Small row → f ≤ l → l < row.length → valOf fns "Line.mean" [lineT ci sp row, .int (f : Int), .int (l : Int)] = some (mt (fr (meanV row f l)))
theorem mean_ok (hc : cs "Line" = some (.cl ci)) (hd : D.lookup ("Line.mean" : Str) = some P_Line_mean.d) (h1 : DrawnOk ci fns) (h2 : WeightOk ci fns) (h3 : LowOk "lowest" fns) : MeanOk ci (stepT D cs fns) := by
  intro sp row f l hs hf hl
  have c : clsC ⟨cs, fns, []⟩ "Line" = some ci := clsM hc
  have e1 := h1 sp row f l hs hf hl
  have e2 := h2 sp row f l hf hl
  have w := weightV_small hs hf hl
  have e3 := h3 (drawnV row f l) (weightV row f l) (by omega) (Nat.lt_of_lt_of_le (show (weightV row f l).natAbs < 2 ^ 17 by omega) (Nat.pow_le_pow_right (by decide) (by decide)))
  simp only [lineT] at e1 e2
  rw [val_step (d := P_Line_mean.d) hd rfl]
  simp [run, P_Line_mean.d, Df.gc, ev_methp, c, lineT, e1, e2, e3, meanV]
def SpOk (sp : Option (Int × Int)) : Prop := ∀ p, sp = some p → p.1.natAbs ≤ 1000000000 ∧ p.2.natAbs ≤ 1000000000
def clampV (sp : Option (Int × Int)) (row : List Lab) (q : Rat) : Rat := match sp with
  | none => q
  | some p => minQ [maxQ [q, (p.1 : Rat)], ((p.2 - total row : Int) : Rat)]
theorem clamp_sm {sp : Option (Int × Int)} {row : List Lab} {q : Rat} (hs : Small row) (hp : SpOk sp) (hq : Sm 40 17 q) : Sm 40 17 (clampV sp row q) := by
  cases sp with
  | none => exact hq
  | some p =>
    have t := total_small hs
    obtain ⟨p1, p2⟩ := hp p rfl
    have s1 : Sm 40 17 (p.1 : Rat) := (Sm.int (n := 40) (by omega)).mono (by decide) (by decide)
    have s2 : Sm 40 17 ((p.2 - total row : Int) : Rat) := (Sm.int (n := 40) (by omega)).mono (by decide) (by decide)
    have m1 := maxQ_mem (xs := [q, (p.1 : Rat)]) (by simp)
    have m2 := minQ_mem (xs := [maxQ [q, (p.1 : Rat)], ((p.2 - total row : Int) : Rat)]) (by simp)
    show Sm 40 17 (minQ _)
    have s3 : Sm 40 17 (maxQ [q, (p.1 : Rat)]) := by
      rcases List.mem_cons.mp m1 with e | e
      · rw [e]; exact hq
      · rw [List.mem_singleton.mp e]; exact s1
    rcases List.mem_cons.mp m2 with e | e
    · rw [e]; exact s3
    · rw [List.mem_singleton.mp e]; exact s2
def InsideOk (ci : ClsI) (fns : Tab) : Prop := ∀ sp row (q : Rat), Small row → SpOk sp → Sm 40 17 q → valOf fns "Line.inside" [lineT ci sp row, fr q] = some (mt (fr (clampV sp row q)))
theorem inside_ok (hc : cs "Line" = some (.cl ci)) (hd : D.lookup ("Line.inside" : Str) = some P_Line_inside.d) (h1 : LowEOk ci fns) (h2 : HighEOk ci fns) (h3 : BestOf "least_of" minQ fns) (h4 : BestOf "greatest_of" maxQ fns) : InsideOk ci (stepT D cs fns) := by
  intro sp row q hs hp hq
  have c : clsC ⟨cs, fns, []⟩ "Line" = some ci := clsM hc
  have e1 := h1 sp row
  have e2 := h2 sp row
  simp only [lineT] at e1 e2
  rw [val_step (d := P_Line_inside.d) hd rfl]
  cases sp with
  | none => simp [run, P_Line_inside.d, Df.gc, ev_fld, c, fldK, lineT, lineF, clampV]
  | some p =>
    have t := total_small hs
    obtain ⟨p1, p2⟩ := hp p rfl
    have s1 : Sm 40 17 (p.1 : Rat) := (Sm.int (n := 40) (by omega)).mono (by decide) (by decide)
    have s2 : Sm 40 17 ((p.2 - total row : Int) : Rat) := (Sm.int (n := 40) (by omega)).mono (by decide) (by decide)
    have g1 := h4 [q, (p.1 : Rat)] true 40 17 (by simp) (fun x hx => by
      rcases List.mem_cons.mp hx with rfl | hx
      · exact hq
      · rw [List.mem_singleton.mp hx]; exact s1) (by decide) (by decide)
    have s3 : Sm 40 17 (maxQ [q, (p.1 : Rat)]) := by
      rcases List.mem_cons.mp (maxQ_mem (xs := [q, (p.1 : Rat)]) (by simp)) with e | e
      · rw [e]; exact hq
      · rw [List.mem_singleton.mp e]; exact s1
    have g2 := h3 [maxQ [q, (p.1 : Rat)], ((p.2 - total row : Int) : Rat)] true 40 17 (by simp) (fun x hx => by
      rcases List.mem_cons.mp hx with rfl | hx
      · exact s3
      · rw [List.mem_singleton.mp hx]; exact s2) (by decide) (by decide)
    simp only [List.map_cons, List.map_nil, fr_int, sq_t] at g1 g2
    simp [lineF, lowE, highE] at e1 e2
    simp [run, P_Line_inside.d, Df.gc, ev_fld, ev_methp, c, fldK, lineT, lineF, clampV, e1, e2, g1, g2]
/-- the places without edges -/
def rowMin (row : List Lab) (i f : Nat) : Rat := minQ ((List.range (row.length - i)).map fun k => meanV row f (i + k))
def freeV (row : List Lab) (i : Nat) : Rat := maxQ ((List.range (i + 1)).map (rowMin row i))
theorem rowMin_sm {row : List Lab} {i f : Nat} (h : Small row) (hi : i < row.length) (hf : f ≤ i) : Sm 40 17 (rowMin row i f) := by
  obtain ⟨k, hk, e⟩ := List.mem_map.mp (minQ_mem (xs := (List.range (row.length - i)).map fun k => meanV row f (i + k)) (by simp; omega))
  unfold rowMin
  rw [← e]
  exact meanV_sm h (by omega) (by have := List.mem_range.mp hk; omega)
theorem freeV_sm {row : List Lab} {i : Nat} (h : Small row) (hi : i < row.length) : Sm 40 17 (freeV row i) := by
  obtain ⟨k, hk, e⟩ := List.mem_map.mp (maxQ_mem (xs := (List.range (i + 1)).map (rowMin row i)) (by simp))
  unfold freeV
  rw [← e]
  exact rowMin_sm h hi (by have := List.mem_range.mp hk; omega)
def FreeOk (ci : ClsI) (fns : Tab) : Prop := ∀ sp row, Small row → valOf fns "Line.free" [lineT ci sp row] = some (.bx (.ls ((List.range row.length).map fun i => fr (freeV row i))))
theorem free_ok (hc : cs "Line" = some (.cl ci)) (hd : D.lookup ("Line.free" : Str) = some P_Line_free.d) (h1 : ManyOk ci fns) (h2 : MeanOk ci fns) (h3 : BestOf "least_of" minQ fns) (h4 : BestOf "greatest_of" maxQ fns) : FreeOk ci (stepT D cs fns) := by
  intro sp row hs
  have h100 := hs.1
  obtain ⟨G, hG⟩ : ∃ G : Gc, G = P_Line_free.d.gc cs fns := ⟨_, rfl⟩
  have hGp : G.pin = [] := by rw [hG]; rfl
  have c : clsC G "Line" = some ci := by rw [hG]; exact clsM hc
  have hF : G.fns = fns := by rw [hG]; rfl
  have e1 := h1 sp row
  have hb : ∀ (m3 : Option M) (fr1 : Option M) (i f : Nat), i < row.length → f ≤ i → ev G (.callp "least_of" (.cons (.comp [5] (.nm 5) (.range2 (.var 2) (.methp "Line.many" "Line" (.cons (.var 0) .nil))) .nil (.methp "Line.mean" "Line" (.cons (.var 0) (.cons (.var 4) (.cons (.var 5) .nil))))) .nil))
      [some (mt (lineT ci sp row)), fr1, some (mt (.int (i : Int))), m3, some (mt (.int (f : Int))), none] = some (mt (fr (rowMin row i f)), [some (mt (lineT ci sp row)), fr1, some (mt (.int (i : Int))), m3, some (mt (.int (f : Int))), none]) := by
    intro m3 fr1 i f hi hf
    have k : rangeT (i : Int) (row.length : Int) = some ((List.range (row.length - i)).map fun (k : Nat) => T.int ((i + k : Nat) : Int)) := rangeT_nat2 (by omega) (by omega)
    have q : ev G (.comp [5] (.nm 5) (.range2 (.var 2) (.methp "Line.many" "Line" (.cons (.var 0) .nil))) .nil (.methp "Line.mean" "Line" (.cons (.var 0) (.cons (.var 4) (.cons (.var 5) .nil)))))
        [some (mt (lineT ci sp row)), fr1, some (mt (.int (i : Int))), m3, some (mt (.int (f : Int))), none] = some (.bx (.ls (((List.range (row.length - i)).map fun (k : Nat) => T.int ((i + k : Nat) : Int)).map fun x => match x with | .int z => fr (meanV row f z.toNat) | _ => .non)), [some (mt (lineT ci sp row)), fr1, some (mt (.int (i : Int))), m3, some (mt (.int (f : Int))), none]) := by
      refine ev_comp_map (fun x => match x with | .int z => fr (meanV row f z.toNat) | _ => .non) ?_ fun x hx => ?_
      · simp only [lineT] at e1 ⊢
        simp [evI_r2, ev_methp, c, hF, e1, k]
      · obtain ⟨z, hz, rfl⟩ := List.mem_map.mp hx
        have e2 := h2 sp row f (i + z) hs (by omega) (by have := List.mem_range.mp hz; omega)
        simp only [lineT] at e2 ⊢
        refine ⟨[some (mt (.ob ci (lineF sp row))), fr1, some (mt (.int (i : Int))), m3, some (mt (.int (f : Int))), some (mt (.int ((i + z : Nat) : Int)))], ?_, by simp⟩
        rw [Int.natCast_add] at e2
        simp [turnF, hGp, ev_methp, c, hF, e2]
        rw [show ((i : Int) + (z : Int)).toNat = i + z by omega]
    have g := h3 ((List.range (row.length - i)).map fun k => meanV row f (i + k)) true 40 17 (by simp; omega) (fun x hx => by
      obtain ⟨k, hk, rfl⟩ := List.mem_map.mp hx
      exact meanV_sm hs (by omega) (by have := List.mem_range.mp hk; omega)) (by decide) (by decide)
    rw [List.map_map] at g
    rw [List.map_map] at q
    rw [ev_callp, evf_c, q, bnd_ok, frz_bx, obd_ok, frz_ls, evf_n, bnd_ok, bnd_ok, hF]
    have ee : (fun x => match x with | T.int z => fr (meanV row f z.toNat) | _ => T.non) ∘ (fun (k : Nat) => T.int ((i + k : Nat) : Int)) = fr ∘ fun k => meanV row f (i + k) := by
      funext k
      simp only [Function.comp]
      rw [show (((i + k : Nat) : Int)).toNat = i + k by omega]
    rw [ee]
    show obd (valOf fns "least_of" [T.sq true _]) _ = _
    rw [g]
    rfl
  have inner : ∀ (fr1 : Option M) (i : Nat), i < row.length → ex G P_Line_free.s1bs1 [some (mt (lineT ci sp row)), fr1, some (mt (.int (i : Int))), some (.bx (.ls [])), none, none] =
      some (.next, [some (mt (lineT ci sp row)), fr1, some (mt (.int (i : Int))), some (.bx (.ls ((List.range (i + 1)).map fun f => fr (rowMin row i f)))), none, none]) := by
    intro fr1 i hi
    rw [ex_for, evI_range (n := i + 1) (ρ' := [some (mt (lineT ci sp row)), fr1, some (mt (.int (i : Int))), some (.bx (.ls [])), none, none]) (by simp) (by omega), bnd_ok]
    obtain ⟨ρ', e1, e2⟩ := forL_run2 (mk := fun i : Nat => T.int (i : Int)) (f := fun x ρ => obd ((Tg.nm 4).store G.pin x ρ) fun ρ => ex G P_Line_free.s1bs1bB ρ)
      (fun done ρ => ρ = [some (mt (lineT ci sp row)), fr1, some (mt (.int (i : Int))), some (.bx (.ls (done.map fun f => fr (rowMin row i f)))), none, none]) (all := List.range (i + 1)) (xs := List.range (i + 1)) (done := []) (ρ := [some (mt (lineT ci sp row)), fr1, some (mt (.int (i : Int))), some (.bx (.ls [])), none, none]) rfl rfl (by
        rintro done f rest ρ he rfl
        refine ⟨.next, _, ?_, .inl rfl, rfl⟩
        have hf : f < i + 1 := List.mem_range.mp (by rw [he]; simp)
        have hd : done.length < i + 1 := by have := congrArg List.length he; simp at this; omega
        have q := hb (some (.bx (.ls (done.map fun f => fr (rowMin row i f))))) fr1 i f hi (by omega)
        have a : ex G P_Line_free.s1bs1bs0 [some (mt (lineT ci sp row)), fr1, some (mt (.int (i : Int))), some (.bx (.ls (done.map fun f => fr (rowMin row i f)))), some (mt (.int (f : Int))), none] = some (.next, [some (mt (lineT ci sp row)), fr1, some (mt (.int (i : Int))), some (.bx (.ls (done.map (fun f => fr (rowMin row i f)) ++ [fr (rowMin row i f)]))), some (mt (.int (f : Int))), none]) := by
          refine ex_app_ok (ys := done.map fun f => fr (rowMin row i f)) (xs := done.map fun f => fr (rowMin row i f)) (t := fr (rowMin row i f)) (ρ' := [some (mt (lineT ci sp row)), fr1, some (mt (.int (i : Int))), some (.bx (.ls (done.map fun f => fr (rowMin row i f)))), some (mt (.int (f : Int))), none]) rfl (by rw [q]; rfl) rfl ?_
          rw [List.length_map]
          exact Nat.lt_of_lt_of_le hd (Nat.le_trans (show i + 1 ≤ 100 by omega) (by decide))
        simp [hGp]
        rw [a]
        simp)
    rw [e1, e2]
  have loop : ex G P_Line_free.s1 [some (mt (lineT ci sp row)), some (.bx (.ls [])), none, none, none, none] = some (.next, [some (mt (lineT ci sp row)), some (.bx (.ls ((List.range row.length).map fun i => fr (freeV row i)))), none, none, none, none]) := by
    have hI : evI G (.range1 (.methp "Line.many" "Line" (.cons (.var 0) .nil))) [some (mt (lineT ci sp row)), some (.bx (.ls [])), none, none, none, none] = some ((List.range row.length).map (fun (i : Nat) => T.int (i : Int)), [some (mt (lineT ci sp row)), some (.bx (.ls [])), none, none, none, none]) := by
      refine evI_range (n := row.length) ?_ (by omega)
      simp only [lineT] at e1 ⊢
      simp [ev_methp, c, hF, e1]
    rw [ex_for, hI, bnd_ok]
    obtain ⟨ρ', e1, e2⟩ := forL_run2 (mk := fun i : Nat => T.int (i : Int)) (f := fun x ρ => obd ((Tg.nm 2).store G.pin x ρ) fun ρ => ex G P_Line_free.s1bB ρ)
      (fun done ρ => ρ = [some (mt (lineT ci sp row)), some (.bx (.ls (done.map fun i => fr (freeV row i)))), none, none, none, none]) (all := List.range row.length) (xs := List.range row.length) (done := []) (ρ := [some (mt (lineT ci sp row)), some (.bx (.ls [])), none, none, none, none]) rfl rfl (by
        rintro done i rest ρ he rfl
        refine ⟨.next, _, ?_, .inl rfl, rfl⟩
        have hi : i < row.length := List.mem_range.mp (by rw [he]; simp)
        have hd : done.length < row.length := by have := congrArg List.length he; simp at this; omega
        have q := inner (some (.bx (.ls (done.map fun i => fr (freeV row i))))) i hi
        have g := h4 ((List.range (i + 1)).map (rowMin row i)) true 40 17 (by simp) (fun x hx => by
          obtain ⟨k, hk, rfl⟩ := List.mem_map.mp hx
          exact rowMin_sm hs hi (by have := List.mem_range.mp hk; omega)) (by decide) (by decide)
        rw [List.map_map] at g
        have a : ex G P_Line_free.s1bs2 [some (mt (lineT ci sp row)), some (.bx (.ls (done.map fun i => fr (freeV row i)))), some (mt (.int (i : Int))), some (.bx (.ls ((List.range (i + 1)).map fun f => fr (rowMin row i f)))), none, none] =
            some (.next, [some (mt (lineT ci sp row)), some (.bx (.ls (done.map (fun i => fr (freeV row i)) ++ [fr (freeV row i)]))), some (mt (.int (i : Int))), some (mt (.lst ((List.range (i + 1)).map fun f => fr (rowMin row i f)))), none, none]) := by
          refine ex_app_ok (ys := done.map fun i => fr (freeV row i)) (ρ' := [some (mt (lineT ci sp row)), some (.bx (.ls (done.map fun i => fr (freeV row i)))), some (mt (.int (i : Int))), some (mt (.lst ((List.range (i + 1)).map fun f => fr (rowMin row i f)))), none, none]) rfl ?_ rfl ?_
          · have g' : valOf fns "greatest_of" [.lst ((List.range (i + 1)).map fun f => fr (rowMin row i f))] = some (mt (fr (freeV row i))) := g
            simp [hF, g', -List.map_map]
          · rw [List.length_map]
            exact Nat.lt_of_lt_of_le hd (Nat.le_trans h100 (by decide))
        have s0 : ex G P_Line_free.s1bs0 [some (mt (lineT ci sp row)), some (.bx (.ls (done.map fun i => fr (freeV row i)))), some (mt (.int (i : Int))), none, none, none] = some (.next, [some (mt (lineT ci sp row)), some (.bx (.ls (done.map fun i => fr (freeV row i)))), some (mt (.int (i : Int))), some (.bx (.ls [])), none, none]) := by
          simp [hGp]
        have st : (Tg.nm 2).store G.pin (T.int (i : Int)) [some (mt (lineT ci sp row)), some (.bx (.ls (done.map fun i => fr (freeV row i)))), none, none, none, none] = some [some (mt (lineT ci sp row)), some (.bx (.ls (done.map fun i => fr (freeV row i)))), some (mt (.int (i : Int))), none, none, none] := by
          simp [hGp]
        show obd ((Tg.nm 2).store G.pin (T.int (i : Int)) _) _ = _
        rw [st, obd_ok, ex_seq, s0, bnd_ok, ex_seq, q, bnd_ok, ex_seq, a, bnd_ok]
        simp)
    rw [e1, e2]
  have s0 : ex G P_Line_free.s0 [some (mt (lineT ci sp row)), none, none, none, none, none] = some (.next, [some (mt (lineT ci sp row)), some (.bx (.ls [])), none, none, none, none]) := by
    simp [hGp]
  rw [val_step (d := P_Line_free.d) hd rfl, ← hG]
  unfold run
  rw [show P_Line_free.d.body = P_Line_free.b from rfl]
  rw [show ([lineT ci sp row].map mt).map some ++ List.replicate (P_Line_free.d.n - ([lineT ci sp row].map mt).length) none = [some (mt (lineT ci sp row)), none, none, none, none, none] from rfl]
  rw [ex_seq, s0, bnd_ok, ex_seq, loop, bnd_ok]
  simp [hGp, P_Line_free.d]
def PlacesOk (ci : ClsI) (fns : Tab) : Prop := ∀ sp row, Small row → SpOk sp → valOf fns "Line.places" [lineT ci sp row] = some (.bx (.ls ((List.range row.length).map fun i => fr (clampV sp row (freeV row i)))))
theorem places_ok (hc : cs "Line" = some (.cl ci)) (hd : D.lookup ("Line.places" : Str) = some P_Line_places.d) (h1 : FreeOk ci fns) (h2 : InsideOk ci fns) : PlacesOk ci (stepT D cs fns) := by
  intro sp row hs hp
  have c : clsC ⟨cs, fns, []⟩ "Line" = some ci := clsM hc
  have e1 := h1 sp row hs
  have e2 : ∀ i ∈ List.range row.length, valOf fns "Line.inside" [lineT ci sp row, fr (freeV row i)] = some (mt (fr (clampV sp row (freeV row i)))) := fun i hi => h2 sp row _ hs hp (freeV_sm hs (List.mem_range.mp hi))
  simp only [lineT] at e1 e2
  rw [val_step (d := P_Line_places.d) hd rfl]
  simp [run, P_Line_places.d, Df.gc, ev_methp, c, lineT, e1, ev_compq, turnV_eq]
  rw [filterO_map_ok (fun i => fr (clampV sp row (freeV row i))) fun a ha => by rw [e2 a ha]; rfl]
  rfl
/-! ### the object made -/
structure InitOk (ci : ClsI) (F : Fn) : Prop where
  mu : F.mu = [true, false, false]
  sem : ∀ (b c : Bool) (sp : Option (Int × Int)) (row : List Lab), row.length ≤ 100 → full sp row = false → ∃ r, F.sem [.ob ci [none, none, none], mt (spT b sp), mt (rowT c row)] =
    some (mt .non, some (.ob ci [some (.fz (spT false sp)), some (.fz (rowT false row)), some (.ls ((aheads 0 row).map .int))]) :: r)
theorem init_ok (hc : cs "Line" = some (.cl ci)) (h1 : TupledOk 3 fns) (h2 : FullOk fns) : InitOk ci (P_Line_init.d.fn cs fns) := ⟨rfl, by
  intro b c sp row hr hf
  obtain ⟨G, hG⟩ : ∃ G : Gc, G = P_Line_init.d.gc cs fns := ⟨_, rfl⟩
  have hGp : G.pin = [0] := by rw [hG]; rfl
  have k : clsC G "Line" = some ci := by rw [hG]; exact clsM hc
  have hF : G.fns = fns := by rw [hG]; rfl
  have t1 := h1 (spT b sp) (by simp)
  have t2 := h1 (rowT c row) (by simp)
  rw [sp_tu] at t1
  rw [row_tu] at t2
  have e2 := h2 false false sp row hr
  rw [hf] at e2
  have s0 : ex G P_Line_init.s0 [some (.ob ci [none, none, none]), some (mt (spT b sp)), some (mt (rowT c row)), none] = some (.next, [some (.ob ci [some (.fz (spT false sp)), none, none]), some (mt (spT b sp)), some (mt (rowT c row)), none]) := by
    simp [ex_fput_f, k, hF, t1, obOf]
  have s1 : ex G P_Line_init.s1 [some (.ob ci [some (.fz (spT false sp)), none, none]), some (mt (spT b sp)), some (mt (rowT c row)), none] = some (.next, [some (.ob ci [some (.fz (spT false sp)), some (.fz (rowT false row)), none]), some (mt (spT b sp)), some (mt (rowT c row)), none]) := by
    simp [ex_fput_f, k, hF, t2, obOf]
  have s2 : ex G P_Line_init.s2 [some (.ob ci [some (.fz (spT false sp)), some (.fz (rowT false row)), none]), some (mt (spT b sp)), some (mt (rowT c row)), none] = some (.next, [some (.ob ci [some (.fz (spT false sp)), some (.fz (rowT false row)), none]), some (mt (spT b sp)), some (mt (rowT c row)), none]) := by
    simp [ev_fld, k, hF, fldK, fldAt, e2]
  have s3 : ex G P_Line_init.s3 [some (.ob ci [some (.fz (spT false sp)), some (.fz (rowT false row)), none]), some (mt (spT b sp)), some (mt (rowT c row)), none] = some (.next, [some (.ob ci [some (.fz (spT false sp)), some (.fz (rowT false row)), some (.ls [.int 0])]), some (mt (spT b sp)), some (mt (rowT c row)), none]) := by
    simp [ex_fput_t, k, obOf]
  have loop : ex G P_Line_init.s4 [some (.ob ci [some (.fz (spT false sp)), some (.fz (rowT false row)), some (.ls [.int 0])]), some (mt (spT b sp)), some (mt (rowT c row)), none] =
      some (.next, [some (.ob ci [some (.fz (spT false sp)), some (.fz (rowT false row)), some (.ls ((aheads 0 row).map .int))]), some (mt (spT b sp)), some (mt (rowT c row)), none]) := by
    have hI : evI G (.seq (.fld 0 "Line" 1)) [some (.ob ci [some (.fz (spT false sp)), some (.fz (rowT false row)), some (.ls [.int 0])]), some (mt (spT b sp)), some (mt (rowT c row)), none] = some (row.map (Lab.m false), [some (.ob ci [some (.fz (spT false sp)), some (.fz (rowT false row)), some (.ls [.int 0])]), some (mt (spT b sp)), some (mt (rowT c row)), none]) := by
      simp [ev_fld, k, fldK, fldAt, rowT]
    rw [ex_for, hI, bnd_ok]
    obtain ⟨ρ', e1, e2⟩ := forL_run2 (mk := Lab.m false) (f := fun x ρ => obd ((Tg.nm 3).store G.pin x ρ) fun ρ => ex G P_Line_init.s4bB ρ)
      (fun done ρ => ρ = [some (.ob ci [some (.fz (spT false sp)), some (.fz (rowT false row)), some (.ls ((aheads 0 done).map .int))]), some (mt (spT b sp)), some (mt (rowT c row)), none]) (all := row) (xs := row) (done := []) (ρ := [some (.ob ci [some (.fz (spT false sp)), some (.fz (rowT false row)), some (.ls [.int 0])]), some (mt (spT b sp)), some (mt (rowT c row)), none]) rfl rfl (by
        rintro done l rest ρ he rfl
        refine ⟨.next, _, ?_, .inl rfl, rfl⟩
        have hd : done.length < row.length := by have := congrArg List.length he; simp at this; omega
        have a1 := aheads_last 0 done
        have hlen : ((aheads 0 done).map T.int).length < sizeLine := by
          rw [List.length_map, aheads_len]
          exact Nat.lt_of_lt_of_le (show done.length + 1 < 102 by omega) (by decide)
        have st : (Tg.nm 3).store G.pin (l.m false) [some (.ob ci [some (.fz (spT false sp)), some (.fz (rowT false row)), some (.ls ((aheads 0 done).map .int))]), some (mt (spT b sp)), some (mt (rowT c row)), none] = some [some (.ob ci [some (.fz (spT false sp)), some (.fz (rowT false row)), some (.ls ((aheads 0 done).map .int))]), some (mt (spT b sp)), some (mt (rowT c row)), some (mt (l.m false))] := by
          simp [hGp]
        have a : ex G P_Line_init.s4bs0 [some (.ob ci [some (.fz (spT false sp)), some (.fz (rowT false row)), some (.ls ((aheads 0 done).map .int))]), some (mt (spT b sp)), some (mt (rowT c row)), some (mt (l.m false))] =
            some (.next, [some (.ob ci [some (.fz (spT false sp)), some (.fz (rowT false row)), some (.ls ((aheads 0 (done ++ [l])).map .int))]), some (mt (spT b sp)), some (mt (rowT c row)), some (mt (l.m false))]) := by
          rw [List.length_map] at hlen
          simp [ex_fapp, E.vs, Es.vs, k, lsF, lsB, obOf, fldAt, ev_fidx, fldV, pIdx, atI_map, a1, Lab.m, hlen, aheads_snoc]
        rw [st, obd_ok, ex_seq, a, bnd_ok]
        simp)
    rw [e1, e2]
  refine ⟨[some (mt (spT b sp)), some (mt (rowT c row))], ?_⟩
  rw [fn_sem, ← hG]
  unfold run
  rw [show P_Line_init.d.body = P_Line_init.b from rfl]
  rw [show [M.ob ci [none, none, none], mt (spT b sp), mt (rowT c row)].map some ++ List.replicate (P_Line_init.d.n - [M.ob ci [none, none, none], mt (spT b sp), mt (rowT c row)].length) none = [some (.ob ci [none, none, none]), some (mt (spT b sp)), some (mt (rowT c row)), none] from rfl]
  rw [ex_seq, s0, bnd_ok, ex_seq, s1, bnd_ok, ex_seq, s2, bnd_ok, ex_seq, s3, bnd_ok, ex_seq, loop, bnd_ok]
  simp [P_Line_init.d, lentOk]⟩
def placeV (sp : Option (Int × Int)) (row : List Lab) (i : Nat) : Rat := clampV sp row (freeV row i) + (ah row i : Rat)
def BestOk (fns : Tab) : Prop := ∀ (b c : Bool) (sp : Option (Int × Int)) (row : List Lab), Small row → SpOk sp → full sp row = false → valOf fns "best" [spT b sp, rowT c row] = some (.bx (.ls ((List.range row.length).map fun i => fr (placeV sp row i))))
theorem best_ok (hc : cs "Line" = some (.cl ci)) (hd : D.lookup ("best" : Str) = some P_best.d) (h0 : Has "Line.__init__" (InitOk ci) fns) (h1 : PlacesOk ci fns) (h2 : AheadOk ci fns) (h3 : PlusOk "plus" fns) : BestOk (stepT D cs fns) := by
  intro b c sp row hs hp hf
  have h100 := hs.1
  obtain ⟨F, hF, FI⟩ := h0
  obtain ⟨r, e0⟩ := FI.sem b c sp row h100 hf
  have mu := FI.mu
  obtain ⟨G, hG⟩ : ∃ G : Gc, G = P_best.d.gc cs fns := ⟨_, rfl⟩
  have hGp : G.pin = [] := by rw [hG]; rfl
  have k : clsC G "Line" = some ci := by rw [hG]; exact clsM hc
  have hFn : G.fns = fns := by rw [hG]; rfl
  have s0 : ex G P_best.s0 [some (mt (spT b sp)), some (mt (rowT c row)), none, none, none] = some (.next, [some (mt (spT b sp)), some (mt (rowT c row)), some (.ob ci [some (.fz (spT false sp)), some (.fz (rowT false row)), some (.ls ((aheads 0 row).map .int))]), none, none]) := by
    simp [ev_new, k, hFn, hF, mu, e0, madeOf, hGp]
  have e1 := h1 sp row hs hp
  have en : enumT 0 ((List.range row.length).map fun i => fr (clampV sp row (freeV row i))) = ((List.range row.length).zipIdx 0).map fun p => .tup [.int (p.2 : Nat), fr (clampV sp row (freeV row p.1))] := enumT_map _ _ _
  have s1 : ex G P_best.s1 [some (mt (spT b sp)), some (mt (rowT c row)), some (mt (lineT ci sp row)), none, none] = some (.ret (.bx (.ls ((List.range row.length).map fun i => fr (placeV sp row i)))), [some (mt (spT b sp)), some (mt (rowT c row)), some (mt (lineT ci sp row)), none, none]) := by
    refine ret_ok rfl ?_
    have z : (List.range row.length).map (fun i => fr (placeV sp row i)) = (((List.range row.length).zipIdx 0).map fun p => T.tup [.int (p.2 : Nat), fr (clampV sp row (freeV row p.1))]).map fun x => match x with | .tup [.int z, _] => fr (placeV sp row z.toNat) | _ => .non := by
      apply List.ext_getElem
      · simp
      · intro i h1 h2
        simp
    rw [z]
    refine ev_comp_map (fun x => match x with | .tup [.int z, _] => fr (placeV sp row z.toNat) | _ => .non) ?_ fun x hx => ?_
    · simp only [lineT] at e1 ⊢
      simp [ev_methp, k, hFn, e1, en]
    · obtain ⟨⟨i, j⟩, hij, rfl⟩ := List.mem_map.mp hx
      have hij2 := List.mem_zipIdx hij
      have hij3 : i = j ∧ j < row.length := by
        obtain ⟨q1, q2, q3⟩ := hij2
        simp at q3 q2
        omega
      obtain ⟨rfl, hi⟩ := hij3
      have e2 := h2 sp row i (by omega)
      have a := ah_small hs i
      have e3 := h3 (clampV sp row (freeV row i)) (ah row i : Rat) 40 17 40 1 (clamp_sm hs hp (freeV_sm hs hi)) (Sm.int (by omega)) (by decide) (by decide) (by decide)
      rw [fr_int] at e3
      simp only [lineT] at e2 ⊢
      refine ⟨[some (mt (spT b sp)), some (mt (rowT c row)), some (mt (.ob ci (lineF sp row))), some (mt (.int (i : Int))), some (mt (fr (clampV sp row (freeV row i))))], ?_, by simp⟩
      simp [turnF, hGp, ev_methp, k, hFn, e2, e3, placeV]
  rw [val_step (d := P_best.d) hd rfl, ← hG]
  unfold run
  rw [show P_best.d.body = P_best.b from rfl]
  rw [show ([spT b sp, rowT c row].map mt).map some ++ List.replicate (P_best.d.n - ([spT b sp, rowT c row].map mt).length) none = [some (mt (spT b sp)), some (mt (rowT c row)), none, none, none] from rfl]
  rw [ex_seq, s0, bnd_ok]
  have fz : frzS [2] [some (mt (spT b sp)), some (mt (rowT c row)), some (.ob ci [some (.fz (spT false sp)), some (.fz (rowT false row)), some (.ls ((aheads 0 row).map .int))]), none, none] = [some (mt (spT b sp)), some (mt (rowT c row)), some (mt (lineT ci sp row)), none, none] := rfl
  simp only [ex_fz, fz]
  rw [ex_seq, s1, bnd_ok]
  simp [P_best.d]
end
end Mk
/-! Chains: rising heights nearest to what is wanted, by levels. Plain. -/
namespace Cm
/-- f 0 + .. + f (n - 1) -/
def sumN : Nat → (Nat → Int) → Int
  | 0, _ => 0
  | n + 1, f => sumN n f + f n
theorem sum_range (f : Nat → Int) : ∀ n, ((List.range n).map f).sum = sumN n f
  | 0 => rfl
  | n + 1 => by
    rw [List.range_succ, List.map_append, List.sum_append, sum_range f n]
    simp [sumN]
theorem sumN_congr {f g : Nat → Int} : ∀ {n : Nat}, (∀ i, i < n → f i = g i) → sumN n f = sumN n g
  | 0, _ => rfl
  | n + 1, h => by
    show sumN n f + f n = sumN n g + g n
    rw [sumN_congr fun i hi => h i (by omega), h n (by omega)]
theorem sumN_le {f g : Nat → Int} : ∀ {n : Nat}, (∀ i, i < n → f i ≤ g i) → sumN n f ≤ sumN n g
  | 0, _ => Int.le_refl _
  | n + 1, h => by
    have h1 := sumN_le (n := n) fun i hi => h i (by omega)
    have h2 := h n (by omega)
    show sumN n f + f n ≤ sumN n g + g n
    omega
theorem sumN_add (f g : Nat → Int) : ∀ n, sumN n (fun i => f i + g i) = sumN n f + sumN n g
  | 0 => rfl
  | n + 1 => by
    show sumN n (fun i => f i + g i) + (f n + g n) = (sumN n f + f n) + (sumN n g + g n)
    rw [sumN_add f g n]
    omega
theorem sumN_mul (c : Int) (f : Nat → Int) : ∀ n, sumN n (fun i => c * f i) = c * sumN n f
  | 0 => by simp [sumN]
  | n + 1 => by
    show sumN n (fun i => c * f i) + c * f n = c * (sumN n f + f n)
    rw [sumN_mul c f n, Int.mul_add]
theorem sumN_zero : ∀ n, sumN n (fun _ => 0) = 0
  | 0 => rfl
  | n + 1 => by show sumN n (fun _ => 0) + 0 = 0; rw [sumN_zero n]; rfl
theorem sumN_swap (f : Nat → Nat → Int) (m : Nat) : ∀ n, sumN n (fun i => sumN m (f i)) = sumN m (fun k => sumN n fun i => f i k)
  | 0 => by show 0 = _; rw [show (fun k => sumN 0 fun i => f i k) = fun _ => (0 : Int) from rfl, sumN_zero]
  | n + 1 => by
    show sumN n (fun i => sumN m (f i)) + sumN m (f n) = sumN m (fun k => sumN n (fun i => f i k) + f n k)
    rw [sumN_swap f m n, sumN_add]
theorem sumN_nonneg {f : Nat → Int} {n : Nat} (h : ∀ i, i < n → 0 ≤ f i) : 0 ≤ sumN n f := by
  have := sumN_le (f := fun _ => 0) (g := f) h
  rwa [sumN_zero] at this
/-- a sum of gains that is nought has none -/
theorem sumN_eq {f g : Nat → Int} : ∀ {n : Nat}, (∀ i, i < n → f i ≤ g i) → sumN n g ≤ sumN n f → ∀ i, i < n → f i = g i
  | 0, _, _, i, hi => by omega
  | n + 1, h, e, i, hi => by
    have h1 := sumN_le (n := n) fun i hi => h i (by omega)
    have h2 := h n (by omega)
    have e : sumN n g + g n ≤ sumN n f + f n := e
    by_cases c : i = n
    · subst c; omega
    · exact sumN_eq (n := n) (fun i hi => h i (by omega)) (by omega) i (by omega)
theorem sumN_tail (f : Nat → Int) (g : Nat) : ∀ n, g ≤ n → sumN n (fun i => if g ≤ i then f i else 0) = sumN (n - g) fun k => f (g + k)
  | 0, h => by
    have : g = 0 := by omega
    subst this; rfl
  | n + 1, h => by
    by_cases c : g = n + 1
    · subst c
      rw [Nat.sub_self]
      exact (sumN_congr (g := fun _ => 0) fun i hi => by rw [if_neg (by omega)]).trans (sumN_zero _)
    · have e : n + 1 - g = (n - g) + 1 := by omega
      rw [e]
      show sumN n (fun i => if g ≤ i then f i else 0) + (if g ≤ n then f n else 0) = sumN (n - g) (fun k => f (g + k)) + f (g + (n - g))
      rw [sumN_tail f g n (by omega), if_pos (by omega), show g + (n - g) = n by omega]
def absI (x : Int) : Int := if x < 0 then -x else x
/-- does the level h lie between a height and what is wanted? -/
def lev (y d h : Int) : Int := if h < y then (if d ≤ h then 1 else 0) else (if h < d then 1 else 0)
theorem lev_sum (y d m : Int) (h1 : m ≤ y) (h2 : m ≤ d) : ∀ N : Nat, sumN N (fun k => lev y d (m + k)) = if m + N ≤ y then (if m + N ≤ d then 0 else m + N - d) else (if m + N ≤ d then m + N - y else absI (y - d))
  | 0 => by
    show (0 : Int) = _
    rw [if_pos (by simpa using h1), if_pos (by simpa using h2)]
  | N + 1 => by
    show sumN N (fun k => lev y d (m + k)) + lev y d (m + (N : Nat)) = _
    rw [lev_sum y d m h1 h2 N]
    unfold lev absI
    have : (((N + 1 : Nat)) : Int) = (N : Int) + 1 := by omega
    rw [this]
    repeat' split
    all_goals omega
theorem lev_abs {y d m : Int} {N : Nat} (h1 : m ≤ y) (h2 : m ≤ d) (h3 : y < m + N) (h4 : d < m + N) : sumN N (fun k => lev y d (m + k)) = absI (y - d) := by
  rw [lev_sum y d m h1 h2 N, if_neg (by omega), if_neg (by omega)]
section
variable (d t : Nat → Int) (n : Nat)
def costF (y : Nat → Int) : Int := sumN n fun i => t i * absI (y i - d i)
/-- what a level costs -/
def lvC (y : Nat → Int) (h : Int) : Int := sumN n fun i => t i * lev (y i) (d i) h
/-- dearer, if all from g on stand above h -/
def slp (g : Nat) (h : Int) : Int := sumN n fun i => if g ≤ i then (if d i ≤ h then t i else - t i) else 0
def base (h : Int) : Int := sumN n fun i => if h < d i then t i else 0
variable {d t n}
theorem cost_lv {y : Nat → Int} {m : Int} {N : Nat} (h1 : ∀ i, i < n → m ≤ y i ∧ y i < m + N) (h2 : ∀ i, i < n → m ≤ d i ∧ d i < m + N) : costF d t n y = sumN N fun k => lvC d t n y (m + k) := by
  unfold costF lvC
  rw [← sumN_swap]
  refine sumN_congr fun i hi => ?_
  rw [sumN_mul, lev_abs (h1 i hi).1 (h2 i hi).1 (h1 i hi).2 (h2 i hi).2]
theorem lv_slp {y : Nat → Int} {h : Int} {g : Nat} (hg : ∀ i, i < n → (h < y i ↔ g ≤ i)) : lvC d t n y h = base d t n h + slp d t n g h := by
  unfold lvC base slp
  rw [← sumN_add]
  refine sumN_congr fun i hi => ?_
  have := hg i hi
  unfold lev
  by_cases c : h < y i
  · rw [if_pos c, if_pos (this.mp c)]
    by_cases c2 : d i ≤ h
    · rw [if_pos c2, if_neg (by omega), if_pos c2]; omega
    · rw [if_neg c2, if_pos (by omega), if_neg c2]; omega
  · rw [if_neg c, if_neg (fun z => c (this.mpr z))]
    by_cases c2 : h < d i
    · rw [if_pos c2, if_pos c2]; omega
    · rw [if_neg c2, if_neg c2]; omega
theorem lv_congr {y z : Nat → Int} {h : Int} (hg : ∀ i, i < n → (h < y i ↔ h < z i)) : lvC d t n y h = lvC d t n z h := by
  unfold lvC
  refine sumN_congr fun i hi => ?_
  have := hg i hi
  unfold lev
  by_cases c : h < y i
  · rw [if_pos c, if_pos (this.mp c)]
  · rw [if_neg c, if_neg fun z => c (this.mpr z)]
def Rise (n : Nat) (y : Nat → Int) : Prop := ∀ i j, i ≤ j → j < n → y i ≤ y j
theorem Rise.cut {y : Nat → Int} (h : Int) : ∀ {n : Nat}, Rise n y → ∃ g, g ≤ n ∧ ∀ i, i < n → (h < y i ↔ g ≤ i)
  | 0, _ => ⟨0, Nat.le_refl _, fun i hi => by omega⟩
  | n + 1, r => by
    obtain ⟨g, h1, h2⟩ := Rise.cut h (n := n) fun i j hij hj => r i j hij (by omega)
    by_cases c : h < y n
    · refine ⟨g, by omega, fun i hi => ?_⟩
      by_cases e : i = n
      · subst e; exact ⟨fun _ => h1, fun _ => c⟩
      · exact h2 i (by omega)
    · refine ⟨n + 1, Nat.le_refl _, fun i hi => ⟨fun q => ?_, fun q => by omega⟩⟩
      have := r i n (by omega) (by omega)
      omega
/-- at each level the best cut; `low`: of several the last, else the first -/
structure Best (low : Bool) (z : Nat → Int) : Prop where
  cut : ∀ h, ∃ G, G ≤ n ∧ (∀ i, i < n → (h < z i ↔ G ≤ i)) ∧ (∀ g, g ≤ n → slp d t n G h ≤ slp d t n g h) ∧ ∀ g, g ≤ n → slp d t n g h = slp d t n G h → if low = true then g ≤ G else G ≤ g
theorem Best.rise {low : Bool} {z : Nat → Int} (b : Best (d := d) (t := t) (n := n) low z) : Rise n z := by
  intro i j hij hj
  refine Classical.byContradiction fun c => ?_
  obtain ⟨G, _, h2, _, _⟩ := b.cut (z j)
  have h3 := (h2 i (by omega)).mp (by omega)
  have h4 := (h2 j hj).mpr (by omega)
  omega
/-- edges of heights -/
def inE (sp : Option (Int × Int)) (x : Int) : Int := match sp with
  | none => x
  | some p => min (max x p.1) p.2
def Within (sp : Option (Int × Int)) (n : Nat) (y : Nat → Int) : Prop := ∀ p, sp = some p → ∀ i, i < n → p.1 ≤ y i ∧ y i ≤ p.2
theorem bounded (f : Nat → Int) : ∀ n, ∃ B : Nat, ∀ i, i < n → -(B : Int) ≤ f i ∧ f i < B
  | 0 => ⟨0, fun i hi => by omega⟩
  | n + 1 => by
    obtain ⟨B, h⟩ := bounded f n
    refine ⟨B + (f n).natAbs + 1, fun i hi => ?_⟩
    by_cases e : i = n
    · subst e; omega
    · have := h i (by omega); omega
theorem lv_le {low : Bool} {z : Nat → Int} (b : Best (d := d) (t := t) (n := n) low z) {sp : Option (Int × Int)} (hsp : ∀ p, sp = some p → p.1 ≤ p.2) {y : Nat → Int} (hy : Rise n y) (hw : Within sp n y) (h : Int) :
    lvC d t n (fun i => inE sp (z i)) h ≤ lvC d t n y h ∧ (lvC d t n (fun i => inE sp (z i)) h = lvC d t n y h → ∀ i, i < n → (if low = true then h < inE sp (z i) → h < y i else h < y i → h < inE sp (z i))) := by
  have main : (∀ i, i < n → (h < inE sp (z i) ↔ h < z i)) → lvC d t n (fun i => inE sp (z i)) h ≤ lvC d t n y h ∧ (lvC d t n (fun i => inE sp (z i)) h = lvC d t n y h → ∀ i, i < n → (if low = true then h < inE sp (z i) → h < y i else h < y i → h < inE sp (z i))) := by
    intro same
    obtain ⟨G, g1, g2, g3, g4⟩ := b.cut h
    obtain ⟨g, y1, y2⟩ := hy.cut h
    have e1 : lvC d t n (fun i => inE sp (z i)) h = base d t n h + slp d t n G h := lv_slp fun i hi => (same i hi).trans (g2 i hi)
    have e2 : lvC d t n y h = base d t n h + slp d t n g h := lv_slp y2
    have l := g3 g y1
    refine ⟨by omega, fun e i hi => ?_⟩
    have q := g4 g y1 (by omega)
    cases low with
    | true =>
      rw [if_pos rfl] at q ⊢
      intro w
      exact (y2 i hi).mpr (Nat.le_trans q ((g2 i hi).mp ((same i hi).mp w)))
    | false =>
      rw [if_neg Bool.false_ne_true] at q ⊢
      intro w
      exact (same i hi).mpr ((g2 i hi).mpr (Nat.le_trans q ((y2 i hi).mp w)))
  cases sp with
  | none => exact main fun i hi => Iff.rfl
  | some p =>
    have hp := hsp p rfl
    by_cases c1 : h < p.1
    · have a : ∀ i, i < n → (h < inE (some p) (z i) ↔ h < y i) := fun i hi => by
        have := (hw p rfl i hi).1
        have : p.1 ≤ inE (some p) (z i) := by show p.1 ≤ min (max (z i) p.1) p.2; omega
        omega
      exact ⟨Int.le_of_eq (lv_congr a), fun _ i hi => by
        split
        · exact (a i hi).mp
        · exact (a i hi).mpr⟩
    · by_cases c2 : p.2 ≤ h
      · have a : ∀ i, i < n → (h < inE (some p) (z i) ↔ h < y i) := fun i hi => by
          have := (hw p rfl i hi).2
          have : inE (some p) (z i) ≤ p.2 := by show min (max (z i) p.1) p.2 ≤ p.2; omega
          omega
        exact ⟨Int.le_of_eq (lv_congr a), fun _ i hi => by
          split
          · exact (a i hi).mp
          · exact (a i hi).mpr⟩
      · exact main fun i hi => by show h < min (max (z i) p.1) p.2 ↔ _; omega
theorem opt {low : Bool} {z : Nat → Int} (b : Best (d := d) (t := t) (n := n) low z) {sp : Option (Int × Int)} (hsp : ∀ p, sp = some p → p.1 ≤ p.2) {y : Nat → Int} (hy : Rise n y) (hw : Within sp n y) :
    costF d t n (fun i => inE sp (z i)) ≤ costF d t n y ∧ (costF d t n y ≤ costF d t n (fun i => inE sp (z i)) → ∀ i, i < n → (if low = true then inE sp (z i) ≤ y i else y i ≤ inE sp (z i))) := by
  obtain ⟨B1, b1⟩ := bounded y n
  obtain ⟨B2, b2⟩ := bounded d n
  obtain ⟨B3, b3⟩ := bounded (fun i => inE sp (z i)) n
  have lvs : ∀ {f : Nat → Int} {B : Nat}, (∀ i, i < n → -(B : Int) ≤ f i ∧ f i < B) → B ≤ B1 + B2 + B3 → ∀ i, i < n → -((B1 + B2 + B3 : Nat) : Int) ≤ f i ∧ f i < -((B1 + B2 + B3 : Nat) : Int) + ((2 * (B1 + B2 + B3) : Nat) : Int) := fun {f B} h hb i hi => by
    have := h i hi
    omega
  have d2 := lvs b2 (by omega)
  have ez := cost_lv (t := t) (lvs b3 (by omega)) d2
  have ey := cost_lv (t := t) (lvs b1 (by omega)) d2
  have le : ∀ k, k < 2 * (B1 + B2 + B3) → lvC d t n (fun i => inE sp (z i)) (-((B1 + B2 + B3 : Nat) : Int) + k) ≤ lvC d t n y (-((B1 + B2 + B3 : Nat) : Int) + k) := fun k _ => (lv_le b hsp hy hw _).1
  refine ⟨by rw [ez, ey]; exact sumN_le le, fun e i hi => ?_⟩
  rw [ez, ey] at e
  have eq := sumN_eq le e
  have y1 := lvs b1 (by omega) i hi
  have z1 := lvs b3 (by omega) i hi
  cases low with
  | true =>
    rw [if_pos rfl]
    refine Classical.byContradiction fun c => ?_
    have q := (lv_le b hsp hy hw (y i)).2 (by
      have := eq (y i + ((B1 + B2 + B3 : Nat) : Int)).toNat (by omega)
      rwa [show -((B1 + B2 + B3 : Nat) : Int) + (((y i + ((B1 + B2 + B3 : Nat) : Int)).toNat : Nat) : Int) = y i by omega] at this) i hi
    rw [if_pos rfl] at q
    have := q (Int.not_le.mp c)
    omega
  | false =>
    rw [if_neg Bool.false_ne_true]
    refine Classical.byContradiction fun c => ?_
    have z1 : -((B1 + B2 + B3 : Nat) : Int) ≤ inE sp (z i) ∧ inE sp (z i) < -((B1 + B2 + B3 : Nat) : Int) + ((2 * (B1 + B2 + B3) : Nat) : Int) := z1
    have q := (lv_le b hsp hy hw (inE sp (z i))).2 (by
      have := eq (inE sp (z i) + ((B1 + B2 + B3 : Nat) : Int)).toNat (by omega)
      rwa [show -((B1 + B2 + B3 : Nat) : Int) + (((inE sp (z i) + ((B1 + B2 + B3 : Nat) : Int)).toNat : Nat) : Int) = inE sp (z i) by omega] at this) i hi
    rw [if_neg Bool.false_ne_true] at q
    have := q (by omega)
    omega
theorem inE_rise {sp : Option (Int × Int)} {z : Nat → Int} (h : Rise n z) : Rise n fun i => inE sp (z i) := by
  intro i j hij hj
  have := h i j hij hj
  cases sp with
  | none => exact this
  | some p => show min (max (z i) p.1) p.2 ≤ min (max (z j) p.1) p.2; omega
theorem inE_within {sp : Option (Int × Int)} (hsp : ∀ p, sp = some p → p.1 ≤ p.2) {z : Nat → Int} : Within sp n fun i => inE sp (z i) := by
  rintro p rfl i hi
  have := hsp p rfl
  show p.1 ≤ min (max (z i) p.1) p.2 ∧ min (max (z i) p.1) p.2 ≤ p.2
  omega
/-! ### heights, level by level -/
/-- the cut at a level: of all that are least the last one, or the first one -/
structure IsF (low : Bool) (F : Nat) (h : Int) : Prop where
  le : F ≤ n
  min : ∀ g, g ≤ n → slp d t n F h ≤ slp d t n g h
  far : ∀ g, g ≤ n → slp d t n g h = slp d t n F h → if low = true then g ≤ F else F ≤ g
/-- a higher level is cut no earlier -/
theorem slp_mono {g g' : Nat} {h h' : Int} (ht : ∀ i, i < n → 0 ≤ t i) (hg : g' ≤ g) (hh : h ≤ h') : slp d t n g h' + slp d t n g' h ≤ slp d t n g h + slp d t n g' h' := by
  unfold slp
  rw [← sumN_add, ← sumN_add]
  refine sumN_le fun i hi => ?_
  have := ht i hi
  by_cases c1 : g ≤ i
  · have c2 : g' ≤ i := by omega
    simp only [c1, c2, if_true]
    exact Int.le_of_eq (Int.add_comm _ _)
  · rw [if_neg c1, if_neg c1]
    by_cases c2 : g' ≤ i
    · rw [if_pos c2, if_pos c2]
      by_cases c3 : d i ≤ h
      · rw [if_pos c3, if_pos (by omega)]; omega
      · rw [if_neg c3]
        split <;> omega
    · rw [if_neg c2, if_neg c2]; omega
theorem IsF.mono {low : Bool} {F F' : Nat} {h h' : Int} (ht : ∀ i, i < n → 0 ≤ t i) (a : IsF (d := d) (t := t) (n := n) low F h) (b : IsF (d := d) (t := t) (n := n) low F' h') (hh : h ≤ h') : F ≤ F' := by
  refine Classical.byContradiction fun c => ?_
  have m := slp_mono (d := d) (t := t) (n := n) (g := F) (g' := F') ht (by omega) hh
  have a1 := a.min F' b.le
  have b1 := b.min F a.le
  cases low with
  | true =>
    have := b.far F a.le (by omega)
    rw [if_pos rfl] at this
    omega
  | false =>
    have := a.far F' b.le (by omega)
    rw [if_neg Bool.false_ne_true] at this
    omega
/-- the level that stands at h -/
def lvl : List Int → Int → Int
  | a :: b :: r, h => if h < b then a else lvl (b :: r) h
  | [a], _ => a
  | [], _ => 0
def zA (F : Int → Nat) (i : Nat) : List Int → Int → Int
  | a :: b :: r, acc => zA F i (b :: r) (if F a ≤ i then b else acc)
  | _, acc => acc
theorem zA_mem {F : Int → Nat} {i : Nat} : ∀ {ws : List Int} {acc : Int}, zA F i ws acc = acc ∨ zA F i ws acc ∈ ws
  | [], _ => .inl rfl
  | [_], _ => .inl rfl
  | a :: b :: r, acc => by
    show zA F i (b :: r) (if F a ≤ i then b else acc) = acc ∨ zA F i (b :: r) (if F a ≤ i then b else acc) ∈ a :: b :: r
    rcases zA_mem (F := F) (i := i) (ws := b :: r) (acc := if F a ≤ i then b else acc) with h | h
    · rw [h]
      split
      · right; simp
      · left; rfl
    · right; exact List.mem_cons_of_mem _ h
theorem zA_ge {F : Int → Nat} {i : Nat} : ∀ {ws : List Int} {acc : Int}, ws.Pairwise (· < ·) → (∀ a ∈ ws.head?, acc ≤ a) → acc ≤ zA F i ws acc
  | [], _, _, _ => Int.le_refl _
  | [_], _, _, _ => Int.le_refl _
  | a :: b :: r, acc, hs, h => by
    have hab : a < b := (List.pairwise_cons.mp hs).1 b List.mem_cons_self
    have ha : acc ≤ a := h a rfl
    have := zA_ge (F := F) (i := i) (ws := b :: r) (acc := if F a ≤ i then b else acc) (List.pairwise_cons.mp hs).2 (fun x hx => by
      cases hx
      split <;> omega)
    show acc ≤ zA F i (b :: r) (if F a ≤ i then b else acc)
    by_cases c : F a ≤ i
    · rw [if_pos c] at this ⊢; omega
    · rw [if_neg c] at this ⊢; omega
theorem zA_no {F : Int → Nat} {i : Nat} : ∀ {ws : List Int} {acc : Int}, (∀ v ∈ ws, i < F v) → zA F i ws acc = acc
  | [], _, _ => rfl
  | [_], _, _ => rfl
  | a :: b :: r, acc, h => by
    show zA F i (b :: r) (if F a ≤ i then b else acc) = acc
    have := h a List.mem_cons_self
    rw [if_neg (by omega), zA_no fun v hv => h v (List.mem_cons_of_mem _ hv)]
theorem lvl_mem : ∀ {ws : List Int} {h : Int}, ws ≠ [] → lvl ws h ∈ ws
  | [], _, hn => absurd rfl hn
  | [a], _, _ => by show a ∈ [a]; simp
  | a :: b :: r, h, _ => by
    show (if h < b then a else lvl (b :: r) h) ∈ _
    split
    · exact List.mem_cons_self
    · exact List.mem_cons_of_mem _ (lvl_mem (by simp))
theorem lvl_le : ∀ {ws : List Int} {h : Int}, (∀ a ∈ ws.head?, a ≤ h) → ws ≠ [] → lvl ws h ≤ h
  | [], _, _, hn => absurd rfl hn
  | [a], _, h, _ => h a rfl
  | a :: b :: r, h, q, _ => by
    show (if h < b then a else lvl (b :: r) h) ≤ h
    split
    · exact q a rfl
    · exact lvl_le (fun x hx => by cases hx; omega) (by simp)
theorem lvl_top : ∀ {ws : List Int} {h v : Int}, ws.Pairwise (· < ·) → v ∈ ws → v ≤ h → v ≤ lvl ws h
  | [], _, _, _, hv, _ => by cases hv
  | [a], _, v, _, hv, _ => by rw [List.mem_singleton.mp hv]; exact Int.le_refl _
  | a :: b :: r, h, v, hs, hv, hl => by
    show v ≤ (if h < b then a else lvl (b :: r) h)
    have hs' := List.pairwise_cons.mp hs
    have hs2 := List.pairwise_cons.mp hs'.2
    split
    · rcases List.mem_cons.mp hv with e | e
      · omega
      · have : b ≤ v := by
          rcases List.mem_cons.mp e with e | e
          · omega
          · have := hs2.1 v e; omega
        omega
    · rcases List.mem_cons.mp hv with e | e
      · have h1 := hs'.1 b List.mem_cons_self
        have := lvl_top (ws := b :: r) (h := h) (v := b) hs'.2 List.mem_cons_self (by omega)
        omega
      · exact lvl_top hs'.2 e hl
theorem zA_cut {F : Int → Nat} {i : Nat} : ∀ {ws : List Int} {acc h : Int}, ws.Pairwise (· < ·) → (∀ a b, a ∈ ws → b ∈ ws → a ≤ b → F a ≤ F b) → (∀ a ∈ ws.head?, acc ≤ a ∧ a ≤ h) → (∃ v ∈ ws, h < v) → (h < zA F i ws acc ↔ F (lvl ws h) ≤ i)
  | [], _, _, _, _, _, ⟨v, hv, _⟩ => by cases hv
  | [a], _, h, _, _, q, ⟨v, hv, hl⟩ => by
    have := (q a rfl).2
    rw [List.mem_singleton.mp hv] at hl
    omega
  | a :: b :: r, acc, h, hs, hm, q, ⟨v, hv, hl⟩ => by
    have hs' := List.pairwise_cons.mp hs
    have hab : a < b := hs'.1 b List.mem_cons_self
    have qa := q a rfl
    show h < zA F i (b :: r) (if F a ≤ i then b else acc) ↔ F (if h < b then a else lvl (b :: r) h) ≤ i
    by_cases c : h < b
    · rw [if_pos c]
      by_cases c2 : F a ≤ i
      · rw [if_pos c2]
        have := zA_ge (F := F) (i := i) (ws := b :: r) (acc := b) hs'.2 (fun x hx => by cases hx; exact Int.le_refl _)
        exact ⟨fun _ => c2, fun _ => by omega⟩
      · rw [if_neg c2, zA_no fun v hv => ?_]
        · exact ⟨fun z => by omega, fun z => absurd z c2⟩
        · have : a ≤ v := Int.le_of_lt (hs'.1 v hv)
          have := hm a v List.mem_cons_self (List.mem_cons_of_mem _ hv) this
          omega
    · rw [if_neg c]
      refine zA_cut hs'.2 (fun x y hx hy => hm x y (List.mem_cons_of_mem _ hx) (List.mem_cons_of_mem _ hy)) (fun x hx => ?_) ⟨v, ?_, hl⟩
      · cases hx
        refine ⟨?_, by omega⟩
        split <;> omega
      · rcases List.mem_cons.mp hv with e | e
        · omega
        · exact e
/-- the heights that are made level by level are the best ones -/
theorem best_of {low : Bool} {F : Int → Nat} {ws : List Int} {a : Int} (ht : ∀ i, i < n → 1 ≤ t i) (hs : (a :: ws).Pairwise (· < ·)) (hd : ∀ i, i < n → d i ∈ a :: ws) (hd2 : ∀ v ∈ a :: ws, ∃ i, i < n ∧ d i = v) (hF : ∀ v ∈ a :: ws, IsF (d := d) (t := t) (n := n) low (F v) v) :
    Best (d := d) (t := t) (n := n) low fun i => zA F i (a :: ws) a := by
  have mono : ∀ x y, x ∈ a :: ws → y ∈ a :: ws → x ≤ y → F x ≤ F y := fun x y hx hy h => (hF x hx).mono (fun i hi => by have := ht i hi; omega) (hF y hy) h
  have ge : ∀ i, a ≤ zA F i (a :: ws) a := fun i => zA_ge hs fun x hx => by cases hx; exact Int.le_refl _
  have mem : ∀ i, zA F i (a :: ws) a ∈ a :: ws := fun i => (zA_mem (F := F) (i := i) (ws := a :: ws) (acc := a)).elim (fun e => by rw [e]; exact List.mem_cons_self) id
  refine ⟨fun h => ?_⟩
  by_cases c1 : h < a
  · refine ⟨0, Nat.zero_le _, fun i hi => ⟨fun _ => Nat.zero_le _, fun _ => by have := ge i; omega⟩, ?_, ?_⟩
    · intro g hg
      unfold slp
      refine sumN_le fun i hi => ?_
      have := ht i hi
      have hda : a ≤ d i := by
        rcases List.mem_cons.mp (hd i hi) with e | e
        · omega
        · have := (List.pairwise_cons.mp hs).1 _ e; omega
      rw [if_pos (Nat.zero_le _), if_neg (by omega)]
      split <;> (try split) <;> omega
    · intro g hg e
      have e0 : g = 0 := by
        refine Classical.byContradiction fun cg => ?_
        have := sumN_eq (n := n) (f := fun i => if 0 ≤ i then (if d i ≤ h then t i else - t i) else 0) (g := fun i => if g ≤ i then (if d i ≤ h then t i else - t i) else 0) (fun i hi => by
          have := ht i hi
          have hda : a ≤ d i := by
            rcases List.mem_cons.mp (hd i hi) with e | e
            · omega
            · have := (List.pairwise_cons.mp hs).1 _ e; omega
          rw [if_pos (Nat.zero_le _), if_neg (by omega)]
          split <;> omega) (by unfold slp at e; omega) 0 (by omega)
        have hg0 : ¬ g ≤ 0 := by omega
        have h1 := ht 0 (by omega)
        have hd0 : ¬ d 0 ≤ h := by
          rcases List.mem_cons.mp (hd 0 (by omega)) with e | e
          · omega
          · have := (List.pairwise_cons.mp hs).1 _ e; omega
        simp only [hg0, hd0, if_false, Nat.le_refl, if_true] at this
        omega
      subst e0
      split <;> omega
  · by_cases c2 : ∃ v ∈ a :: ws, h < v
    · have lm := lvl_mem (ws := a :: ws) (h := h) (by simp)
      have f := hF _ lm
      have same : ∀ g, slp d t n g (lvl (a :: ws) h) = slp d t n g h := fun g => by
        unfold slp
        refine sumN_congr fun i hi => ?_
        have l1 := lvl_le (ws := a :: ws) (h := h) (fun x hx => by cases hx; omega) (by simp)
        have : d i ≤ lvl (a :: ws) h ↔ d i ≤ h := ⟨fun z => by omega, fun z => lvl_top hs (hd i hi) z⟩
        simp only [this]
      refine ⟨F (lvl (a :: ws) h), f.le, fun i hi => zA_cut hs mono (fun x hx => by cases hx; omega) c2, fun g hg => ?_, fun g hg e => ?_⟩
      · have := f.min g hg
        rwa [same, same] at this
      · exact f.far g hg (by rw [same, same]; exact e)
    · have top : ∀ v ∈ a :: ws, v ≤ h := fun v hv => by
        refine Classical.byContradiction fun z => c2 ⟨v, hv, by omega⟩
      have s0 : slp d t n n h = 0 := by
        unfold slp
        exact (sumN_congr (g := fun _ => 0) fun i hi => by rw [if_neg (by omega)]).trans (sumN_zero _)
      refine ⟨n, Nat.le_refl _, fun i hi => ⟨fun z => ?_, fun z => by omega⟩, fun g hg => ?_, fun g hg e => ?_⟩
      · have := top _ (mem i); omega
      · rw [s0]
        refine sumN_nonneg fun i hi => ?_
        have := ht i hi
        rw [if_pos (top _ (hd i hi))]
        split <;> omega
      · have e0 : g = n := by
          refine Classical.byContradiction fun cg => ?_
          have := sumN_eq (n := n) (f := fun i => 0) (g := fun i => if g ≤ i then (if d i ≤ h then t i else - t i) else 0) (fun i hi => by
            have := ht i hi
            show (0 : Int) ≤ if g ≤ i then (if d i ≤ h then t i else - t i) else 0
            rw [if_pos (top _ (hd i hi))]
            split <;> omega) (by rw [sumN_zero]; unfold slp at e s0; omega) g (by omega)
          have this : (0 : Int) = if g ≤ g then (if d g ≤ h then t g else - t g) else 0 := this
          have h1 := ht g (by omega)
          rw [if_pos (Nat.le_refl _), if_pos (top _ (hd g (by omega)))] at this
          omega
        subst e0
        split <;> omega
end
end Cm
set_option maxHeartbeats 4000000
/-! Mk: the class Chain: heights, the lowest and the highest placing of the least sum. -/
namespace Mk
open PySem L2 Cm
section
variable {D : Defs} {cs : Cons} {fns : Tab} {ci : ClsI}
def dA (row : List Lab) (i : Nat) : Int := wi row i - ah row i
def chE (sp : Option (Int × Int)) (row : List Lab) : Option (Int × Int) := sp.map fun p => (p.1, p.2 - total row)
def chET (sp : Option (Int × Int)) (row : List Lab) : T := match sp with
  | none => .non
  | some p => .tup [.int p.1, .int (p.2 - total row)]
def aheadL (row : List Lab) : List T := (List.range row.length).map fun i => .int (ah row i)
def heightL (row : List Lab) : List T := (List.range row.length).map fun i => .int (dA row i)
def chainF (sp : Option (Int × Int)) (row : List Lab) : List T := [rowT false row, .lst (aheadL row), .lst (heightL row), chET sp row]
def chainT (ci : ClsI) (sp : Option (Int × Int)) (row : List Lab) : T := .ob ci (chainF sp row)
structure ManyLOk (ci : ClsI) (F : Fn) : Prop where
  mu : F.mu = [true]
  sem : ∀ (row : List Lab) (fs : List (Option B)), fs[0]? = some (some (.fz (rowT false row))) → F.sem [.ob ci fs] = some (mt (.int row.length), [some (.ob ci fs)])
theorem manyL_ok (hc : cs "Chain" = some (.cl ci)) : ManyLOk ci (P_Chain_many_l.d.fn cs fns) := ⟨rfl, by
  intro row fs hf
  have c : clsC ⟨cs, fns, [0]⟩ "Chain" = some ci := clsM hc
  rw [fn_sem]
  simp [run, P_Chain_many_l.d, Df.gc, ev_fld, c, pinsOf, fldK, fldAt, hf, rowT, lentOk]⟩
structure ChInitOk (ci : ClsI) (F : Fn) : Prop where
  mu : F.mu = [true, false, false]
  sem : ∀ (b c : Bool) (sp : Option (Int × Int)) (row : List Lab), row.length ≤ 100 → ∃ r, F.sem [.ob ci [none, none, none, none], mt (spT b sp), mt (rowT c row)] =
    some (mt .non, some (.ob ci [some (.fz (rowT false row)), some (.fz (.lst (aheadL row))), some (.fz (.lst (heightL row))), some (.fz (chET sp row))]) :: r)
theorem wts_sizes (row : List Lab) (k : Nat) : ((row.take k).map (·.s)).sum = ah row k := rfl
theorem chinit_ok (hc : cs "Chain" = some (.cl ci)) (h1 : TupledOk 3 fns) (hm : Has "Chain.many!" (ManyLOk ci) fns) : ChInitOk ci (P_Chain_init.d.fn cs fns) := ⟨rfl, by
  intro b c sp row hr
  obtain ⟨G, hG⟩ : ∃ G : Gc, G = P_Chain_init.d.gc cs fns := ⟨_, rfl⟩
  have hGp : G.pin = [0] := by rw [hG]; rfl
  have k : clsC G "Chain" = some ci := by rw [hG]; exact clsM hc
  have hF : G.fns = fns := by rw [hG]; rfl
  have t2 := h1 (rowT c row) (by simp)
  rw [row_tu] at t2
  obtain ⟨Fm, m1, m2⟩ := hm
  have mmu := m2.mu
  obtain ⟨S, hS⟩ : ∃ S, S = spT b sp := ⟨_, rfl⟩
  obtain ⟨R, hR⟩ : ∃ R, R = rowT c row := ⟨_, rfl⟩
  rw [← hR] at t2
  have s0 : ex G P_Chain_init.s0 [some (.ob ci [none, none, none, none]), some (mt S), some (mt R), none, none, none] = some (.next, [some (.ob ci [some (.fz (rowT false row)), none, none, none]), some (mt S), some (mt R), none, none, none]) := by
    simp [ex_fput_f, k, hF, t2, obOf]
  have s1 : ex G P_Chain_init.s1 [some (.ob ci [some (.fz (rowT false row)), none, none, none]), some (mt S), some (mt R), none, none, none] = some (.next, [some (.ob ci [some (.fz (rowT false row)), some (.fz (.lst (aheadL row))), none, none]), some (mt S), some (mt R), none, none, none]) := by
    have hI : evI G (.range1 (.meth "Chain.many!" "Chain" (.cons (.var 0) .nil))) [some (.ob ci [some (.fz (rowT false row)), none, none, none]), some (mt S), some (mt R), none, none, none] = some ((List.range row.length).map (fun (i : Nat) => T.int (i : Int)), [some (.ob ci [some (.fz (rowT false row)), none, none, none]), some (mt S), some (mt R), none, none, none]) := by
      refine evI_range ?_ (by omega)
      have q := m2.sem row [some (.fz (rowT false row)), none, none, none] rfl
      simp [ev_meth, k, hF, m1, mmu, q, preOb, Es.hslot, isObM]
    have q : ev G (.comp [3] (.nm 3) (.range1 (.meth "Chain.many!" "Chain" (.cons (.var 0) .nil))) .nil (.op .sum (.cons (.comp [4] (.nm 4) (.seq (.sl (.fld 0 "Chain" 0) .no (.some (.var 3)))) .nil (.op .idx (.cons (.var 4) (.cons (.k (.int 2)) .nil)))) .nil))) [some (.ob ci [some (.fz (rowT false row)), none, none, none]), some (mt S), some (mt R), none, none, none] =
        some (.bx (.ls (aheadL row)), [some (.ob ci [some (.fz (rowT false row)), none, none, none]), some (mt S), some (mt R), none, none, none]) := by
      rw [ev_compq, hI, bnd_ok, if_pos (by rfl)]
      rw [filterO_map, filterO_map_ok (fun i => T.int (ah row i)) fun i hi => ?_, obd_ok]
      · rfl
      · obtain ⟨L, hL⟩ : ∃ L, L = row.take i := ⟨_, rfl⟩
        have c0 : cutT (row.map (Lab.m false)) none (some (i : Int)) = L.map (Lab.m false) := by rw [cut_to, hL, List.map_take]
        have e := ps_sum (L.map (·.s))
        simp only [List.map_map, Function.comp_def] at e
        have ha : ah row i = (L.map (·.s)).sum := by rw [hL]; rfl
        rw [ha]
        simp [turnV_eq, hGp, ev_fld, k, fldK, fldAt, rowT, c0, ev_compq, Lab.m, e, Function.comp_def]
    simp [ex_fput_f, k, q, obOf]
  have s2 : ex G P_Chain_init.s2 [some (.ob ci [some (.fz (rowT false row)), some (.fz (.lst (aheadL row))), none, none]), some (mt S), some (mt R), none, none, none] = some (.next, [some (.ob ci [some (.fz (rowT false row)), some (.fz (.lst (aheadL row))), some (.fz (.lst (heightL row))), none]), some (mt S), some (mt R), none, none, none]) := by
    have z : zipT (row.map (Lab.m false)) (aheadL row) = (row.zip (List.range row.length)).map fun p => .tup [Lab.m false p.1, .int (ah row p.2)] := zipT_zip _ _ _ _
    have e : ((row.zip (List.range row.length)).map fun p => T.int (p.1.w - ah row p.2)) = heightL row := by
      apply List.ext_getElem
      · simp [heightL]
      · intro i h1 h2
        simp at h1
        simp [heightL, dA, wi_at h1]
    have q : ev G (.comp [4, 5] (.t2 (.nm 4) (.nm 5)) (.zip (.fld 0 "Chain" 0) (.fld 0 "Chain" 1)) .nil (.op .sub (.cons (.op .idx (.cons (.var 4) (.cons (.k (.int 1)) .nil))) (.cons (.var 5) .nil)))) [some (.ob ci [some (.fz (rowT false row)), some (.fz (.lst (aheadL row))), none, none]), some (mt S), some (mt R), none, none, none] =
        some (.bx (.ls (heightL row)), [some (.ob ci [some (.fz (rowT false row)), some (.fz (.lst (aheadL row))), none, none]), some (mt S), some (mt R), none, none, none]) := by
      simp [ev_compq, turnV_eq, hGp, ev_fld, k, fldK, fldAt, rowT, z, Lab.m, e]
    simp [ex_fput_f, k, q, obOf]
  have s3 : ex G P_Chain_init.s3 [some (.ob ci [some (.fz (rowT false row)), some (.fz (.lst (aheadL row))), some (.fz (.lst (heightL row))), none]), some (mt S), some (mt R), none, none, none] = some (.next, [some (.ob ci [some (.fz (rowT false row)), some (.fz (.lst (aheadL row))), some (.fz (.lst (heightL row))), some (.fz .non)]), some (mt S), some (mt R), none, none, none]) := by
    simp [ex_fput_f, k, obOf]
  have s4 : ex G P_Chain_init.s4 [some (.ob ci [some (.fz (rowT false row)), some (.fz (.lst (aheadL row))), some (.fz (.lst (heightL row))), some (.fz .non)]), some (mt S), some (mt R), none, none, none] = some (.next, [some (.ob ci [some (.fz (rowT false row)), some (.fz (.lst (aheadL row))), some (.fz (.lst (heightL row))), some (.fz (chET sp row))]), some (mt S), some (mt R), none, none, none]) := by
    cases sp with
    | none =>
      rw [show S = .non from hS]
      simp [chET, T.isN]
    | some p =>
      rw [show S = .sq b [.int p.1, .int p.2] from hS]
      have e := ps_sum (row.map (·.s))
      simp only [List.map_map, Function.comp_def] at e
      simp [chET, ex_fput_f, k, obOf, ev_fld, fldK, fldAt, rowT, ev_compq, turnV_eq, hGp, Lab.m, e, total, Function.comp_def]
  refine ⟨[some (mt S), some (mt R)], ?_⟩
  rw [fn_sem, ← hG, ← hS, ← hR]
  unfold run
  rw [show P_Chain_init.d.body = P_Chain_init.b from rfl]
  rw [show [M.ob ci [none, none, none, none], mt S, mt R].map some ++ List.replicate (P_Chain_init.d.n - [M.ob ci [none, none, none, none], mt S, mt R].length) none = [some (.ob ci [none, none, none, none]), some (mt S), some (mt R), none, none, none] from rfl]
  rw [ex_seq, s0, bnd_ok, ex_seq, s1, bnd_ok, ex_seq, s2, bnd_ok, ex_seq, s3, bnd_ok, ex_seq, s4, bnd_ok]
  simp [P_Chain_init.d, lentOk]⟩
def ChManyOk (ci : ClsI) (fns : Tab) : Prop := ∀ sp row, valOf fns "Chain.many" [chainT ci sp row] = some (mt (.int row.length))
theorem chmany_ok (hc : cs "Chain" = some (.cl ci)) (hd : D.lookup ("Chain.many" : Str) = some P_Chain_many.d) : ChManyOk ci (stepT D cs fns) := by
  intro sp row
  have c : clsC ⟨cs, fns, []⟩ "Chain" = some ci := clsM hc
  rw [val_step (d := P_Chain_many.d) hd rfl]
  simp [run, P_Chain_many.d, Df.gc, ev_fld, c, fldK, chainT, chainF, rowT]
def ChWeightOk (ci : ClsI) (fns : Tab) : Prop := ∀ sp row (i : Nat), i < row.length → valOf fns "Chain.weight" [chainT ci sp row, .int (i : Int)] = some (mt (.int (wtA row i)))
theorem chweight_ok (hc : cs "Chain" = some (.cl ci)) (hd : D.lookup ("Chain.weight" : Str) = some P_Chain_weight.d) : ChWeightOk ci (stepT D cs fns) := by
  intro sp row i hi
  have c : clsC ⟨cs, fns, []⟩ "Chain" = some ci := clsM hc
  have e1 : atI (row.map (Lab.m false)) (i : Int) = some ((row[i]).m false) := by
    rw [atI_nat (by simpa using hi)]
    simp
  rw [val_step (d := P_Chain_weight.d) hd rfl]
  simp [run, P_Chain_weight.d, Df.gc, ev_fld, c, fldK, chainT, chainF, rowT, e1, Lab.m, wtA_at hi]
def slopeR (row : List Lab) (f : Nat) (h : Int) : Int := slp (dA row) (wtA row) row.length f h
theorem slopeR_eq {row : List Lab} {f : Nat} (hf : f ≤ row.length) (h : Int) : slopeR row f h = ((List.range (row.length - f)).map fun k => if dA row (f + k) ≤ h then wtA row (f + k) else - wtA row (f + k)).sum := by
  unfold slopeR slp
  rw [sum_range, sumN_tail (fun i => if dA row i ≤ h then wtA row i else - wtA row i) f row.length hf]
def ChSlopeOk (ci : ClsI) (fns : Tab) : Prop := ∀ sp row (f : Nat) (h : Int), row.length ≤ 100 → f ≤ row.length → valOf fns "Chain.slope" [chainT ci sp row, .int (f : Int), .int h] = some (mt (.int (slopeR row f h)))
theorem chslope_ok (hc : cs "Chain" = some (.cl ci)) (hd : D.lookup ("Chain.slope" : Str) = some P_Chain_slope.d) (h1 : ChManyOk ci fns) (h2 : ChWeightOk ci fns) : ChSlopeOk ci (stepT D cs fns) := by
  intro sp row f h hr hf
  obtain ⟨G, hG⟩ : ∃ G : Gc, G = P_Chain_slope.d.gc cs fns := ⟨_, rfl⟩
  have hGp : G.pin = [] := by rw [hG]; rfl
  have k : clsC G "Chain" = some ci := by rw [hG]; exact clsM hc
  have hFn : G.fns = fns := by rw [hG]; rfl
  have e1 := h1 sp row
  have kr : rangeT (f : Int) (row.length : Int) = some ((List.range (row.length - f)).map fun (k : Nat) => T.int ((f + k : Nat) : Int)) := rangeT_nat2 (by omega) (by omega)
  obtain ⟨W, hW⟩ : ∃ W : List T, W = (List.range (row.length - f)).map fun k => T.tup [.int (wtA row (f + k)), .bl (decide (dA row (f + k) ≤ h))] := ⟨_, rfl⟩
  have s0 : ex G P_Chain_slope.s0 [some (mt (chainT ci sp row)), some (mt (.int (f : Int))), some (mt (.int h)), none, none, none, none] = some (.next, [some (mt (chainT ci sp row)), some (mt (.int (f : Int))), some (mt (.int h)), some (.bx (.ls W)), none, none, none]) := by
    have q : ev G (.comp [4] (.nm 4) (.range2 (.var 1) (.methp "Chain.many" "Chain" (.cons (.var 0) .nil))) .nil (.tup (.cons (.methp "Chain.weight" "Chain" (.cons (.var 0) (.cons (.var 4) .nil))) (.cons (.op .le (.cons (.op .idx (.cons (.fld 0 "Chain" 2) (.cons (.var 4) .nil))) (.cons (.var 2) .nil))) .nil)))) [some (mt (chainT ci sp row)), some (mt (.int (f : Int))), some (mt (.int h)), none, none, none, none] =
        some (.bx (.ls W), [some (mt (chainT ci sp row)), some (mt (.int (f : Int))), some (mt (.int h)), none, none, none, none]) := by
      simp only [chainT] at e1 ⊢
      simp [ev_compq, turnV_eq, hGp, ev_methp, k, hFn, e1, evI_r2, kr]
      rw [filterO_map_ok (fun k => T.tup [.int (wtA row (f + k)), .bl (decide (dA row (f + k) ≤ h))]) fun a ha => ?_, obd_ok, hW]
      have hlt : f + a < row.length := by have := List.mem_range.mp ha; omega
      have e2 := h2 sp row (f + a) hlt
      have e3 : atI (heightL row) ((f : Int) + (a : Int)) = some (.int (dA row (f + a))) := by
        unfold heightL
        rw [show (f : Int) + (a : Int) = ((f + a : Nat) : Int) from rfl, atI_nat (by simpa using hlt)]
        simp
      simp only [chainT, chainF] at e2
      rw [show ((f + a : Nat) : Int) = (f : Int) + (a : Int) from rfl] at e2
      simp [e2, ev_fld, k, fldK, chainF, e3]
    simp [q, hGp]
  have s1 : ex G P_Chain_slope.s1 [some (mt (chainT ci sp row)), some (mt (.int (f : Int))), some (mt (.int h)), some (mt (.lst W)), none, none, none] = some (.ret (mt (.int (slopeR row f h))), [some (mt (chainT ci sp row)), some (mt (.int (f : Int))), some (mt (.int h)), some (mt (.lst W)), none, none, none]) := by
    have e := ps_sum ((List.range (row.length - f)).map fun k => if dA row (f + k) ≤ h then wtA row (f + k) else - wtA row (f + k))
    rw [List.map_map] at e
    have q : ev G (.comp [5, 6] (.t2 (.nm 5) (.nm 6)) (.seq (.var 3)) .nil (.ite (.val (.var 6)) (.var 5) (.op .neg (.cons (.var 5) .nil)))) [some (mt (chainT ci sp row)), some (mt (.int (f : Int))), some (mt (.int h)), some (mt (.lst W)), none, none, none] =
        some (.bx (.ls ((List.range (row.length - f)).map fun k => T.int (if dA row (f + k) ≤ h then wtA row (f + k) else - wtA row (f + k)))), [some (mt (chainT ci sp row)), some (mt (.int (f : Int))), some (mt (.int h)), some (mt (.lst W)), none, none, none]) := by
      simp [ev_compq, turnV_eq, hGp, hW]
      rw [filterO_map_ok (fun k => T.int (if dA row (f + k) ≤ h then wtA row (f + k) else - wtA row (f + k))) fun a ha => ?_, obd_ok]
      by_cases c : dA row (f + a) ≤ h
      · simp [c]
      · simp [c]
    rw [slopeR_eq hf]
    refine ret_ok rfl ?_
    simp [q]
    rw [show (List.range (row.length - f)).map (fun k => T.int (if dA row (f + k) ≤ h then wtA row (f + k) else - wtA row (f + k))) = (List.range (row.length - f)).map (T.int ∘ fun k => if dA row (f + k) ≤ h then wtA row (f + k) else - wtA row (f + k)) from rfl, e]
    rfl
  rw [val_step (d := P_Chain_slope.d) hd rfl, ← hG]
  unfold run
  rw [show P_Chain_slope.d.body = P_Chain_slope.b from rfl]
  rw [show ([chainT ci sp row, T.int (f : Int), T.int h].map mt).map some ++ List.replicate (P_Chain_slope.d.n - ([chainT ci sp row, T.int (f : Int), T.int h].map mt).length) none = [some (mt (chainT ci sp row)), some (mt (.int (f : Int))), some (mt (.int h)), none, none, none, none] from rfl]
  rw [ex_seq, s0, bnd_ok]
  simp only [ex_fz, frzS_c, frzS_n, List.getElem?_cons_succ, List.getElem?_cons_zero, List.set_cons_succ, List.set_cons_zero, frz_ls]
  rw [ex_seq, s1, bnd_ok]
  simp [P_Chain_slope.d]
/-! ### the cut at a level -/
theorem minI_le : ∀ {xs : List Int}, ∀ x ∈ xs, minL xs ≤ x
  | [], x, h => by cases h
  | [a], x, h => by rw [List.mem_singleton.mp h]; exact Int.le_refl _
  | a :: b :: r, x, h => by
    show (if minL (b :: r) < a then minL (b :: r) else a) ≤ x
    have ih := minI_le (xs := b :: r)
    rcases List.mem_cons.mp h with e | e
    · split <;> omega
    · have := ih x e
      split <;> omega
theorem minI_mem : ∀ {xs : List Int}, xs ≠ [] → minL xs ∈ xs
  | [], h => absurd rfl h
  | [a], _ => List.mem_singleton.mpr rfl
  | a :: b :: r, _ => by
    show (if minL (b :: r) < a then minL (b :: r) else a) ∈ _
    split
    · exact List.mem_cons_of_mem _ (minI_mem (by simp))
    · exact List.mem_cons_self
theorem ps_min1i {xs : List Int} (h : xs ≠ []) : primSem .min1 [.lst (xs.map .int)] = some (mt (.int (minL xs))) := by
  show (match intsT (xs.map .int) with
    | some ns => if 0 < ns.length then ri (minL ns) else none
    | none => minD1 (xs.map .int)) = _
  rw [intsT_map]
  exact if_pos (List.length_pos_iff.mpr h)
def cutsL (row : List Lab) (h : Int) : List Int := (List.range (row.length + 1)).map fun g => slopeR row g h
def cutF (row : List Lab) (h : Int) : List Nat := (List.range (row.length + 1)).filter fun g => decide (slopeR row g h = minL (cutsL row h))
def faV (low : Bool) (row : List Lab) (h : Int) : Nat := if low = true then ((cutF row h).getLast?).getD 0 else ((cutF row h).head?).getD 0
theorem cuts_ne (row : List Lab) (h : Int) : cutsL row h ≠ [] := by
  unfold cutsL
  simp
theorem cutF_ne (row : List Lab) (h : Int) : cutF row h ≠ [] := by
  obtain ⟨g, hg, e⟩ := List.mem_map.mp (minI_mem (cuts_ne row h))
  intro z
  have : g ∈ cutF row h := List.mem_filter.mpr ⟨hg, decide_eq_true e⟩
  rw [z] at this
  cases this
theorem cutF_sorted (row : List Lab) (h : Int) : (cutF row h).Pairwise (· < ·) := List.Pairwise.filter _ List.pairwise_lt_range
theorem last_ge : ∀ {xs : List Nat}, xs.Pairwise (· < ·) → ∀ x ∈ xs, x ≤ (xs.getLast?).getD 0
  | [], _, x, h => by cases h
  | [a], _, x, h => by rw [List.mem_singleton.mp h]; exact Nat.le_refl _
  | a :: b :: r, hs, x, h => by
    have hs' := List.pairwise_cons.mp hs
    rw [List.getLast?_cons_cons]
    have ih := last_ge hs'.2
    rcases List.mem_cons.mp h with e | e
    · have h1 := hs'.1 b List.mem_cons_self
      have := ih b List.mem_cons_self
      omega
    · exact ih x e
theorem last_mem {xs : List Nat} (h : xs ≠ []) : (xs.getLast?).getD 0 ∈ xs := by
  rw [List.getLast?_eq_some_getLast h]
  exact List.getLast_mem h
theorem head_le {xs : List Nat} (hs : xs.Pairwise (· < ·)) : ∀ x ∈ xs, (xs.head?).getD 0 ≤ x := by
  cases xs with
  | nil => intro x h; cases h
  | cons a r =>
    intro x h
    show a ≤ x
    rcases List.mem_cons.mp h with e | e
    · omega
    · exact Nat.le_of_lt ((List.pairwise_cons.mp hs).1 x e)
theorem head_mem {xs : List Nat} (h : xs ≠ []) : (xs.head?).getD 0 ∈ xs := by
  cases xs with
  | nil => exact absurd rfl h
  | cons a r => exact List.mem_cons_self
theorem fa_isF (low : Bool) (row : List Lab) (h : Int) : IsF (d := dA row) (t := wtA row) (n := row.length) low (faV low row h) h := by
  have mem : faV low row h ∈ cutF row h := by
    unfold faV
    split
    · exact last_mem (cutF_ne row h)
    · exact head_mem (cutF_ne row h)
  obtain ⟨m1, m2⟩ := List.mem_filter.mp mem
  have m2 : slopeR row (faV low row h) h = minL (cutsL row h) := of_decide_eq_true m2
  refine ⟨by have := List.mem_range.mp m1; omega, fun g hg => ?_, fun g hg e => ?_⟩
  · show slopeR row (faV low row h) h ≤ slopeR row g h
    rw [m2]
    exact minI_le _ (List.mem_map.mpr ⟨g, List.mem_range.mpr (by omega), rfl⟩)
  · have gm : g ∈ cutF row h := List.mem_filter.mpr ⟨List.mem_range.mpr (by omega), decide_eq_true (show slopeR row g h = _ from (show slopeR row g h = slopeR row (faV low row h) h from e).trans m2)⟩
    cases low with
    | true => rw [if_pos rfl]; exact last_ge (cutF_sorted row h) g gm
    | false => rw [if_neg Bool.false_ne_true]; exact head_le (cutF_sorted row h) g gm
def ChFirstOk (ci : ClsI) (fns : Tab) : Prop := ∀ sp row (h : Int) (low : Bool), row.length ≤ 100 → valOf fns "Chain.first_above" [chainT ci sp row, .int h, .bl low] = some (mt (.int (faV low row h)))
theorem at_last {xs : List Nat} (h : xs ≠ []) : atI (xs.map fun (i : Nat) => T.int (i : Int)) (-1) = some (.int (((xs.getLast?).getD 0 : Nat) : Int)) := by
  rw [atI_last (by simpa using h), List.getLast_map, List.getLast?_eq_some_getLast h]
  rfl
theorem at_first {xs : List Nat} (h : xs ≠ []) : atI (xs.map fun (i : Nat) => T.int (i : Int)) 0 = some (.int (((xs.head?).getD 0 : Nat) : Int)) := by
  cases xs with
  | nil => exact absurd rfl h
  | cons a r => rw [show (0 : Int) = ((0 : Nat) : Int) from rfl, atI_nat (by simp)]; rfl
theorem chfirst_ok (hc : cs "Chain" = some (.cl ci)) (hd : D.lookup ("Chain.first_above" : Str) = some P_Chain_first_above.d) (h1 : ChManyOk ci fns) (h2 : ChSlopeOk ci fns) : ChFirstOk ci (stepT D cs fns) := by
  intro sp row h low hr
  obtain ⟨G, hG⟩ : ∃ G : Gc, G = P_Chain_first_above.d.gc cs fns := ⟨_, rfl⟩
  have hGp : G.pin = [] := by rw [hG]; rfl
  have k : clsC G "Chain" = some ci := by rw [hG]; exact clsM hc
  have hFn : G.fns = fns := by rw [hG]; rfl
  have e1 := h1 sp row
  have kr : rangeT 0 ((row.length : Int) + 1) = some ((List.range (row.length + 1)).map fun (k : Nat) => T.int (k : Int)) := rangeT_nat (n := row.length + 1) (by omega)
  obtain ⟨W, hW⟩ : ∃ W : List T, W = (cutsL row h).map T.int := ⟨_, rfl⟩
  obtain ⟨C, hC⟩ : ∃ C, C = chainT ci sp row := ⟨_, rfl⟩
  have s0 : ex G P_Chain_first_above.s0 [some (mt C), some (mt (.int h)), some (mt (.bl low)), none, none, none, none] = some (.next, [some (mt C), some (mt (.int h)), some (mt (.bl low)), some (.bx (.ls W)), none, none, none]) := by
    have q : ev G (.comp [5] (.nm 5) (.range1 (.op .add (.cons (.methp "Chain.many" "Chain" (.cons (.var 0) .nil)) (.cons (.k (.int 1)) .nil)))) .nil (.methp "Chain.slope" "Chain" (.cons (.var 0) (.cons (.var 5) (.cons (.var 1) .nil))))) [some (mt C), some (mt (.int h)), some (mt (.bl low)), none, none, none, none] =
        some (.bx (.ls W), [some (mt C), some (mt (.int h)), some (mt (.bl low)), none, none, none, none]) := by
      rw [hC]
      simp only [chainT] at e1 ⊢
      simp [ev_compq, turnV_eq, hGp, ev_methp, k, hFn, e1, evI_r1, kr]
      rw [filterO_map_ok (fun g => T.int (slopeR row g h)) fun a ha => ?_, obd_ok, hW]
      · simp [cutsL, Function.comp_def]
      · have e2 := h2 sp row a h hr (by have := List.mem_range.mp ha; omega)
        simp only [chainT] at e2
        simp [e2]
    simp [q, hGp]
  have mn := ps_min1i (cuts_ne row h)
  rw [← hW] at mn
  obtain ⟨Fd, hFd⟩ : ∃ Fd : List T, Fd = (cutF row h).map fun (i : Nat) => T.int (i : Int) := ⟨_, rfl⟩
  have s1 : ex G P_Chain_first_above.s1 [some (mt C), some (mt (.int h)), some (mt (.bl low)), some (mt (.lst W)), none, none, none] = some (.next, [some (mt C), some (mt (.int h)), some (mt (.bl low)), some (mt (.lst W)), some (.bx (.ls Fd)), none, none]) := by
    have en : enumT 0 W = (List.range (row.length + 1)).map fun (g : Nat) => T.tup [.int (g : Int), .int (slopeR row g h)] := by
      rw [hW, cutsL, List.map_map, enumT_map]
      apply List.ext_getElem
      · simp
      · intro i h1 h2
        simp
    have q : ev G (.comp [5, 6] (.t2 (.nm 5) (.nm 6)) (.enum (.var 3)) (.cons (.val (.op .eq (.cons (.var 6) (.cons (.op .min1 (.cons (.var 3) .nil)) .nil)))) .nil) (.var 5)) [some (mt C), some (mt (.int h)), some (mt (.bl low)), some (mt (.lst W)), none, none, none] =
        some (.bx (.ls Fd), [some (mt C), some (mt (.int h)), some (mt (.bl low)), some (mt (.lst W)), none, none, none]) := by
      simp [ev_compq, turnV_eq, hGp, en, mn]
      rw [hFd]
      rfl
    simp [q, hGp]
  have s2 : ex G P_Chain_first_above.s2 [some (mt C), some (mt (.int h)), some (mt (.bl low)), some (mt (.lst W)), some (mt (.lst Fd)), none, none] = some (.ret (mt (.int (faV low row h))), [some (mt C), some (mt (.int h)), some (mt (.bl low)), some (mt (.lst W)), some (mt (.lst Fd)), none, none]) := by
    have a1 := at_last (cutF_ne row h)
    have a2 := at_first (cutF_ne row h)
    rw [← hFd] at a1 a2
    cases low with
    | true => simp [a1, faV]
    | false => simp [a2, faV]
  rw [val_step (d := P_Chain_first_above.d) hd rfl, ← hG, ← hC]
  unfold run
  rw [show P_Chain_first_above.d.body = P_Chain_first_above.b from rfl]
  rw [show ([C, T.int h, T.bl low].map mt).map some ++ List.replicate (P_Chain_first_above.d.n - ([C, T.int h, T.bl low].map mt).length) none = [some (mt C), some (mt (.int h)), some (mt (.bl low)), none, none, none, none] from rfl]
  rw [ex_seq, s0, bnd_ok]
  simp only [ex_fz, frzS_c, frzS_n, List.getElem?_cons_succ, List.getElem?_cons_zero, List.set_cons_succ, List.set_cons_zero, frz_ls]
  rw [ex_seq, s1, bnd_ok]
  simp only [ex_fz, frzS_c, frzS_n, List.getElem?_cons_succ, List.getElem?_cons_zero, List.set_cons_succ, List.set_cons_zero, frz_ls]
  rw [ex_seq, s2, bnd_ok]
  simp [P_Chain_first_above.d]
end
end Mk
set_option maxHeartbeats 4000000
/-! Mk: the heights of a chain, its placings, costs. -/
namespace Mk
open PySem L2 Cm
theorem mem_add {ks : List Int} {k x : Int} : x ∈ addI ks k ↔ x ∈ ks ∨ x = k := by
  unfold addI
  split
  · rename_i h
    exact ⟨.inl, fun q => q.elim id fun e => by rw [e]; exact h⟩
  · simp
theorem mem_foldl_add : ∀ {ks acc : List Int} {x : Int}, x ∈ ks.foldl addI acc ↔ x ∈ acc ∨ x ∈ ks
  | [], acc, x => by simp
  | k :: ks, acc, x => by
    rw [List.foldl_cons, mem_foldl_add, mem_add, List.mem_cons]
    exact ⟨fun h => h.elim (fun h => h.elim .inl fun e => .inr (.inl e)) fun h => .inr (.inr h), fun h => h.elim (fun h => .inl (.inl h)) fun h => h.elim (fun e => .inl (.inr e)) .inr⟩
theorem mem_once {ks : List Int} {x : Int} : x ∈ onceI ks ↔ x ∈ ks := by
  unfold onceI
  rw [mem_foldl_add]
  simp
theorem nodup_add {ks : List Int} {k : Int} (h : ks.Nodup) : (addI ks k).Nodup := by
  unfold addI
  split
  · exact h
  · rename_i q
    rw [List.nodup_append]
    refine ⟨h, by simp, fun a ha b hb e => q ?_⟩
    rw [List.mem_singleton.mp hb] at e
    rw [← e]; exact ha
theorem nodup_foldl_add : ∀ {ks acc : List Int}, acc.Nodup → (ks.foldl addI acc).Nodup
  | [], acc, h => h
  | k :: ks, acc, h => by rw [List.foldl_cons]; exact nodup_foldl_add (nodup_add h)
def wantsL (row : List Lab) : List Int := sortI (onceI ((List.range row.length).map (dA row)))
theorem wants_sorted (row : List Lab) : (wantsL row).Pairwise (· < ·) := by
  have h1 := sortI_sorted (onceI ((List.range row.length).map (dA row)))
  have h2 : (wantsL row).Nodup := (sortI_perm _).nodup_iff.mpr (nodup_foldl_add List.nodup_nil)
  exact (h1.and h2).imp fun ⟨a, b⟩ => by omega
theorem wants_mem {row : List Lab} {x : Int} : x ∈ wantsL row ↔ ∃ i, i < row.length ∧ dA row i = x := by
  unfold wantsL
  rw [(sortI_perm _).mem_iff, mem_once, List.mem_map]
  exact ⟨fun ⟨i, hi, e⟩ => ⟨i, List.mem_range.mp hi, e⟩, fun ⟨i, hi, e⟩ => ⟨i, List.mem_range.mpr hi, e⟩⟩
theorem wants_len (row : List Lab) : (wantsL row).length ≤ row.length := by
  unfold wantsL
  rw [(sortI_perm _).length_eq]
  have := once_len ((List.range row.length).map (dA row))
  rwa [List.length_map, List.length_range] at this
theorem wants_ne {row : List Lab} (h : 0 < row.length) : wantsL row ≠ [] := fun e => by
  have : dA row 0 ∈ wantsL row := wants_mem.mpr ⟨0, h, rfl⟩
  rw [e] at this
  cases this
/-- height i behind some pairs of levels -/
def zP (F : Int → Nat) (i : Nat) (ps : List (Int × Int)) (acc : Int) : Int := ps.foldl (fun acc p => if F p.1 ≤ i then p.2 else acc) acc
theorem zP_zA (F : Int → Nat) (i : Nat) : ∀ (ws : List Int) (acc : Int), zP F i (ws.zip ws.tail) acc = zA F i ws acc
  | [], _ => rfl
  | [_], _ => rfl
  | a :: b :: r, acc => zP_zA F i (b :: r) (if F a ≤ i then b else acc)
def w0 (row : List Lab) : Int := (wantsL row).headD 0
/-- a height without edges -/
def zV (low : Bool) (row : List Lab) (i : Nat) : Int := zA (faV low row) i (wantsL row) (w0 row)
theorem zV_best {row : List Lab} (low : Bool) (h0 : 0 < row.length) (ht : ∀ l ∈ row, 1 ≤ l.t) : Best (d := dA row) (t := wtA row) (n := row.length) low (zV low row) := by
  obtain ⟨a, ws, e⟩ : ∃ a ws, wantsL row = a :: ws := by
    cases q : wantsL row with
    | nil => exact absurd q (wants_ne h0)
    | cons a ws => exact ⟨a, ws, rfl⟩
  have : zV low row = fun i => zA (faV low row) i (a :: ws) a := by
    funext i
    unfold zV w0
    rw [e]
    rfl
  rw [this]
  refine best_of (fun i hi => ?_) (by rw [← e]; exact wants_sorted row) (fun i hi => by rw [← e]; exact wants_mem.mpr ⟨i, hi, rfl⟩) (fun v hv => wants_mem.mp (by rw [e]; exact hv)) fun v _ => fa_isF low row v
  rw [wtA_at hi]
  exact ht _ (List.getElem_mem hi)
/-- a height -/
def hgt (low : Bool) (sp : Option (Int × Int)) (row : List Lab) (i : Nat) : Int := inE (chE sp row) (zV low row i)
section
variable {D : Defs} {cs : Cons} {fns : Tab} {ci : ClsI}
def ChHeightsOk (ci : ClsI) (fns : Tab) : Prop := ∀ sp (row : List Lab) (low : Bool), 0 < row.length → row.length < 64 → ∃ m, valOf fns "Chain.heights" [chainT ci sp row, .bl low] = some m ∧ m.frz = some (.lst ((List.range row.length).map fun i => .int (hgt low sp row i)))
theorem sd_ok {ns : List Int} (h : ns.length < 64) : sdM (.bx (.ls (ns.map .int))) = some (.bx (.ls ((sortI (onceI ns)).map .int))) := by
  show (intsT (ns.map .int)).bind _ = _
  rw [intsT_map]
  exact if_pos h
theorem chheights_ok (hc : cs "Chain" = some (.cl ci)) (hd : D.lookup ("Chain.heights" : Str) = some P_Chain_heights.d) (h1 : ChManyOk ci fns) (h2 : ChFirstOk ci fns) : ChHeightsOk ci (stepT D cs fns) := by
  intro sp row low h0 hr
  obtain ⟨G, hG⟩ : ∃ G : Gc, G = P_Chain_heights.d.gc cs fns := ⟨_, rfl⟩
  have hGp : G.pin = [] := by rw [hG]; rfl
  have k : clsC G "Chain" = some ci := by rw [hG]; exact clsM hc
  have hFn : G.fns = fns := by rw [hG]; rfl
  obtain ⟨n, hn⟩ : ∃ n, n = row.length := ⟨_, rfl⟩
  have e1 := h1 sp row
  rw [← hn] at e1
  have e2 : ∀ h, valOf fns "Chain.first_above" [chainT ci sp row, .int h, .bl low] = some (mt (.int (faV low row h))) := fun h => h2 sp row h low (by omega)
  have fle : ∀ h, faV low row h ≤ n := fun h => by rw [hn]; exact (fa_isF low row h).le
  obtain ⟨C, hC⟩ : ∃ C, C = chainT ci sp row := ⟨_, rfl⟩
  have hC2 : C = .ob ci (chainF sp row) := hC
  rw [← hC] at e1
  simp only [← hC] at e2
  obtain ⟨W, hW⟩ : ∃ W : List Int, W = wantsL row := ⟨_, rfl⟩
  have hWl : W.length ≤ n := by rw [hW, hn]; exact wants_len row
  have many : ∀ ρ : Slots, ρ[0]? = some (some (mt C)) → ev G (.methp "Chain.many" "Chain" (.cons (.var 0) .nil)) ρ = some (mt (.int n), ρ) := fun ρ h => by
    rw [hC2] at h e1
    simp [ev_methp, k, hFn, e1, h]
  have s0 : ex G P_Chain_heights.s0 [some (mt C), some (mt (.bl low)), none, none, none, none, none, none, none] = some (.next, [some (mt C), some (mt (.bl low)), some (.bx (.ls (W.map .int))), none, none, none, none, none, none]) := by
    obtain ⟨ns, hns⟩ : ∃ ns : List Int, ns = (List.range row.length).map (dA row) := ⟨_, rfl⟩
    have sd := sd_ok (ns := ns) (by rw [hns]; simpa using hr)
    have hh : heightL row = ns.map .int := by rw [hns]; unfold heightL; rw [List.map_map]; rfl
    have hw : sortI (onceI ns) = W := by rw [hW, hns]; rfl
    rw [hw] at sd
    have q : ev G (.comp [4] (.nm 4) (.seq (.fld 0 "Chain" 2)) .nil (.var 4)) [some (mt C), some (mt (.bl low)), none, none, none, none, none, none, none] = some (.bx (.ls (ns.map .int)), [some (mt C), some (mt (.bl low)), none, none, none, none, none, none, none]) := by
      rw [hC2]
      simp [ev_compq, turnV_eq, hGp, ev_fld, k, fldK, chainF, hh]
    simp [q, sd, hGp]
  obtain ⟨v0, vs, eW⟩ : ∃ v0 vs, W = v0 :: vs := by
    cases q : W with
    | nil => exact absurd (hW.symm.trans q) (wants_ne h0)
    | cons a ws => exact ⟨a, ws, rfl⟩
  obtain ⟨ST, hST⟩ : ∃ ST : (Nat → Int) → Slots, ST = fun f => [some (mt C), some (mt (.bl low)), some (mt (.lst (W.map .int))), some (.bx (.ls ((List.range n).map fun i => T.int (f i)))), none, none, none, none, none] := ⟨_, rfl⟩
  have s1 : ex G P_Chain_heights.s1 [some (mt C), some (mt (.bl low)), some (mt (.lst (W.map .int))), none, none, none, none, none, none] = some (.next, ST fun i => zP (faV low row) i [] v0) := by
    have e : (List.replicate n [T.int v0]).flatten = (List.range n).map fun _ => T.int v0 := by
      have : ∀ n : Nat, (List.replicate n [T.int v0]).flatten = List.replicate n (T.int v0) := fun n => by
        induction n with
        | zero => rfl
        | succ n ih => rw [List.replicate_succ, List.flatten_cons, ih, List.replicate_succ]; rfl
      rw [this]
      apply List.ext_getElem
      · simp
      · intro i h1 h2
        simp
    have m : primSem .mul [.lst [.int v0], .int (n : Int)] = some (.bx (.ls (List.replicate n [T.int v0]).flatten)) := by
      have : primSem .mul [.lst [.int v0], .int (n : Int)] = if -(2 ^ 63) ≤ (n : Int) ∧ (n : Int) < 2 ^ 63 ∧ [T.int v0].length * ((n : Int)).toNat ≤ sizeLine then some (.bx (.ls (List.replicate ((n : Int)).toNat [T.int v0]).flatten)) else none := rfl
      have h64 : [T.int v0].length * ((n : Int)).toNat ≤ sizeLine := by
        rw [Int.toNat_natCast]
        exact Nat.le_trans (show [T.int v0].length * n ≤ 64 by show 1 * n ≤ 64; omega) (by decide)
      rw [this, if_pos ⟨by omega, by omega, h64⟩, Int.toNat_natCast]
    have mm := many [some (mt C), some (mt (.bl low)), some (mt (.lst (W.map .int))), none, none, none, none, none, none] rfl
    have i0 : atI (W.map T.int) 0 = some (.int v0) := by rw [eW, show (0 : Int) = ((0 : Nat) : Int) from rfl, atI_nat (by simp)]; rfl
    rw [hST]
    simp [mm, hGp, m, e, i0, zP]
  have loop : ex G P_Chain_heights.s2 (ST fun i => zP (faV low row) i [] v0) = some (.next, ST fun i => zP (faV low row) i (W.zip W.tail) v0) := by
    have zl : zipT (W.map T.int) (cutT (W.map T.int) (some 1) none) = (W.zip W.tail).map fun p => T.tup [.int p.1, .int p.2] := by
      rw [show (1 : Int) = ((1 : Nat) : Int) from rfl, cut_from, ← List.map_drop, zipT_zip, List.drop_one]
    have hI : evI G (.zip (.var 2) (.sl (.var 2) (.some (.k (.int 1))) .no)) (ST fun i => zP (faV low row) i [] v0) = some ((W.zip W.tail).map (fun p => T.tup [.int p.1, .int p.2]), ST fun i => zP (faV low row) i [] v0) := by
      rw [hST]
      simp [zl, Op.vs, E.vs, ownedAt]
    rw [ex_for, hI, bnd_ok]
    obtain ⟨ρ', f1, f2⟩ := forL_run2 (mk := fun p : Int × Int => T.tup [.int p.1, .int p.2]) (f := fun x ρ => obd ((Tg.t2 (.nm 4) (.nm 5)).store G.pin x ρ) fun ρ => ex G P_Chain_heights.s2bB ρ)
      (fun done ρ => ρ = ST fun i => zP (faV low row) i done v0) (all := W.zip W.tail) (xs := W.zip W.tail) (done := []) (ρ := ST fun i => zP (faV low row) i [] v0) rfl rfl (by
        rintro done p rest ρ he rfl
        refine ⟨.next, _, ?_, .inl rfl, rfl⟩
        obtain ⟨f, hf⟩ : ∃ f : Nat → Int, f = fun i => zP (faV low row) i done v0 := ⟨_, rfl⟩
        obtain ⟨u, hu⟩ : ∃ u, u = faV low row p.1 := ⟨_, rfl⟩
        have ul : u ≤ n := by rw [hu]; exact fle _
        have ee := e2 p.1
        rw [← hu] at ee
        rw [← hf]
        have nx : (fun i => zP (faV low row) i (done ++ [p]) v0) = fun i => if u ≤ i then p.2 else f i := by
          funext i
          rw [hf, hu]
          show (done ++ [p]).foldl _ v0 = _
          rw [List.foldl_append]
          rfl
        rw [nx]
        obtain ⟨S5, hS5⟩ : ∃ S5 : (Nat → Int) → Option M → Slots, S5 = fun g x => [some (mt C), some (mt (.bl low)), some (mt (.lst (W.map .int))), some (.bx (.ls ((List.range n).map fun i => T.int (g i)))), some (mt (.int p.1)), some (mt (.int p.2)), x, none, none] := ⟨_, rfl⟩
        have st : (Tg.t2 (.nm 4) (.nm 5)).store G.pin (T.tup [.int p.1, .int p.2]) (ST f) = some (S5 f none) := by
          rw [hST, hS5]
          simp [hGp]
        have kr : rangeT (u : Int) (n : Int) = some ((List.range (n - u)).map fun (k : Nat) => T.int ((u + k : Nat) : Int)) := rangeT_nat2 (by omega) (by omega)
        have hJ : evI G (.range2 (.methp "Chain.first_above" "Chain" (.cons (.var 0) (.cons (.var 4) (.cons (.var 1) .nil)))) (.methp "Chain.many" "Chain" (.cons (.var 0) .nil))) (S5 f none) = some ((List.range (n - u)).map (fun (k : Nat) => T.int ((u + k : Nat) : Int)), S5 f none) := by
          have mm := many (S5 f none) (by rw [hS5]; rfl)
          have q : ev G (.methp "Chain.first_above" "Chain" (.cons (.var 0) (.cons (.var 4) (.cons (.var 1) .nil)))) (S5 f none) = some (mt (.int u), S5 f none) := by
            rw [hS5]
            rw [hC2] at ee ⊢
            simp [ev_methp, k, hFn, ee]
          rw [evI_r2, q, f1_ok, frz_bx, obd_ok, bnd_ok, mm, f1_ok, frz_bx, obd_ok, bnd_ok]
          simp [kr]
        have inner : ex G P_Chain_heights.s2bs0 (S5 f none) = some (.next, S5 (fun i => if u ≤ i then p.2 else f i) none) := by
          rw [ex_for, hJ, bnd_ok]
          obtain ⟨ρ'', g1, g2⟩ := forL_run2 (mk := fun k : Nat => T.int ((u + k : Nat) : Int)) (f := fun x ρ => obd ((Tg.nm 6).store G.pin x ρ) fun ρ => ex G P_Chain_heights.s2bs0bB ρ)
            (fun done ρ => ρ = S5 (fun i => if u ≤ i ∧ i < u + done.length then p.2 else f i) none) (all := List.range (n - u)) (xs := List.range (n - u)) (done := []) (ρ := S5 f none) rfl (by
              rw [hS5]
              show _ = _
              have : (fun i => if u ≤ i ∧ i < u + ([] : List Nat).length then p.2 else f i) = f := by
                funext i
                rw [if_neg (by simp)]
              rw [this]) (by
              rintro dn a rs ρ he rfl
              refine ⟨.next, _, ?_, .inl rfl, rfl⟩
              have ha : a = dn.length ∧ a < n - u := by
                have h1 : (List.range (n - u))[dn.length]? = some a := by rw [he]; simp
                obtain ⟨q1, q2⟩ := List.getElem?_eq_some_iff.mp h1
                simp at q1 q2
                omega
              obtain ⟨ha, hlt⟩ := ha
              obtain ⟨g, hg⟩ : ∃ g : Nat → Int, g = fun i => if u ≤ i ∧ i < u + dn.length then p.2 else f i := ⟨_, rfl⟩
              rw [← hg]
              have st6 : (Tg.nm 6).store G.pin (T.int ((u + a : Nat) : Int)) (S5 g none) = some (S5 g (some (mt (.int ((u + a : Nat) : Int))))) := by
                rw [hS5]
                simp [hGp]
              have upd : ((List.range n).map fun i => T.int (g i)).set (u + a) (T.int p.2) = (List.range n).map fun i => T.int (if u ≤ i ∧ i < u + (dn ++ [a]).length then p.2 else f i) := by
                apply List.ext_getElem
                · simp
                · intro i h1 h2
                  rw [List.getElem_set]
                  simp at h2
                  simp only [List.getElem_map, List.getElem_range, List.length_append, List.length_singleton]
                  split
                  · rename_i c
                    rw [if_pos (by omega)]
                  · rename_i c
                    rw [hg]
                    show T.int (if u ≤ i ∧ i < u + dn.length then p.2 else f i) = _
                    by_cases c2 : u ≤ i ∧ i < u + dn.length
                    · rw [if_pos c2, if_pos (by omega)]
                    · rw [if_neg c2, if_neg (by omega)]
              have put : ex G P_Chain_heights.s2bs0bs0 (S5 g (some (mt (.int ((u + a : Nat) : Int))))) = some (.next, S5 (fun i => if u ≤ i ∧ i < u + (dn ++ [a]).length then p.2 else f i) (some (mt (.int ((u + a : Nat) : Int))))) := by
                have ix : ixN n ((u + a : Nat) : Int) = some (u + a) := ixN_nat (by omega)
                rw [hS5]
                simp only [ex_put, ev_var, List.getElem?_cons_succ, List.getElem?_cons_zero, f1_ok, frz_bx, frz_fz, obd_ok, bnd_ok]
                rw [if_pos (by rfl)]
                show (obd (lsOf _ 3) fun xs => obd (intOf (T.int ((u + a : Nat) : Int))) fun k => obd (ixN xs.length k) fun j => some (Out.next, _)) = _
                simp only [lsOf, List.getElem?_cons_succ, List.getElem?_cons_zero, obd_ok, run_int_of, List.length_map, List.length_range, ix, upd, List.set_cons_succ, List.set_cons_zero]
              show obd ((Tg.nm 6).store G.pin (T.int ((u + a : Nat) : Int)) (S5 g none)) _ = _
              rw [st6, obd_ok, ex_seq, put, bnd_ok]
              show ex G (.fg [6] .skip) (S5 _ _) = _
              rw [ex_fg, ex_skip, hS5]
              rfl)
          rw [g1, g2]
          have : (List.range n).map (fun i => T.int (if u ≤ i ∧ i < u + (List.range (n - u)).length then p.2 else f i)) = (List.range n).map (fun i => T.int (if u ≤ i then p.2 else f i)) := by
            apply List.map_congr_left
            intro i hi
            have := List.mem_range.mp hi
            rw [List.length_range]
            by_cases c : u ≤ i
            · rw [if_pos c, if_pos (by omega)]
            · rw [if_neg c, if_neg (by omega)]
          rw [hS5]
          simp only [this]
        show obd ((Tg.t2 (.nm 4) (.nm 5)).store G.pin (T.tup [.int p.1, .int p.2]) (ST f)) _ = _
        rw [st, obd_ok, ex_seq, inner, bnd_ok]
        show ex G (.fg [4, 5, 6] .skip) (S5 _ _) = _
        rw [ex_fg, ex_skip, hS5, hST]
        rfl)
    rw [f1, f2]
  have zz : (fun i => zP (faV low row) i (W.zip W.tail) v0) = zV low row := by
    funext i
    rw [zP_zA]
    unfold zV w0
    rw [← hW, eW]
    rfl
  rw [zz] at loop
  obtain ⟨L, hL⟩ : ∃ L : List T, L = (List.range n).map fun i => T.int (zV low row i) := ⟨_, rfl⟩
  rw [← hC]
  have run : ∀ m, (∃ x y ρ', ex G (.seq P_Chain_heights.s3 (.seq P_Chain_heights.s4 (.seq P_Chain_heights.s5 .skip))) [some (mt C), some (mt (.bl low)), some (mt (.lst (W.map .int))), some (mt (.lst L)), none, none, none, none, none] = some (.ret m, x :: y :: ρ')) → valOf (stepT D cs fns) "Chain.heights" [C, .bl low] = some m := by
    rintro m ⟨x, y, ρ', q⟩
    rw [val_step (d := P_Chain_heights.d) hd rfl, ← hG]
    unfold Mk.run
    rw [show P_Chain_heights.d.body = P_Chain_heights.b from rfl]
    rw [show ([C, T.bl low].map mt).map some ++ List.replicate (P_Chain_heights.d.n - ([C, T.bl low].map mt).length) none = [some (mt C), some (mt (.bl low)), none, none, none, none, none, none, none] from rfl]
    rw [ex_seq, s0, bnd_ok]
    simp only [ex_fz, frzS_c, frzS_n, List.getElem?_cons_succ, List.getElem?_cons_zero, List.set_cons_succ, List.set_cons_zero, frz_ls]
    rw [ex_seq, s1, bnd_ok, ex_seq, loop, bnd_ok, hST]
    simp only [ex_fz, frzS_c, frzS_n, List.getElem?_cons_succ, List.getElem?_cons_zero, List.set_cons_succ, List.set_cons_zero, frz_ls]
    rw [← hL, q]
    simp [P_Chain_heights.d, lentOk]
  cases sp with
  | none =>
    refine ⟨mt (.lst L), run _ ⟨some (mt C), some (mt (.bl low)), [some (mt (.lst (W.map .int))), none, none, none, none, none, none], ?_⟩, ?_⟩
    · rw [hC2]
      simp [ev_fld, k, fldK, chainF, chET, T.isN, hGp]
    · rw [frz_bx, frz_fz, hL, hn]
      rfl
  | some p =>
    refine ⟨.bx (.ls ((List.range n).map fun i => T.int (hgt low (some p) row i))), run _ ⟨some (mt C), some (mt (.bl low)), [some (mt (.lst (W.map .int))), some (mt (.lst L)), none, none, none, some (mt (.int p.1)), some (mt (.int (p.2 - total row)))], ?_⟩, by rw [hn]; rfl⟩
    rw [hC2]
    have q : ev G (.comp [4] (.nm 4) (.seq (.var 3)) .nil (.op .min2 (.cons (.op .max2 (.cons (.var 4) (.cons (.var 7) .nil))) (.cons (.var 8) .nil)))) [some (mt (.ob ci (chainF (some p) row))), some (mt (.bl low)), some (mt (.lst (W.map .int))), some (mt (.lst L)), none, none, none, some (mt (.int p.1)), some (mt (.int (p.2 - total row)))] =
        some (.bx (.ls ((List.range n).map fun i => T.int (hgt low (some p) row i))), [some (mt (.ob ci (chainF (some p) row))), some (mt (.bl low)), some (mt (.lst (W.map .int))), some (mt (.lst L)), none, none, none, some (mt (.int p.1)), some (mt (.int (p.2 - total row)))]) := by
      simp [ev_compq, turnV_eq, hGp, hL]
      intro a ha
      show _ = min (max (zV low row a) p.1) (p.2 - total row)
      repeat' split
      all_goals omega
    simp [ev_fld, k, fldK, chainF, chET, T.isN, hGp]
    simp only [chainF, chET] at q
    rw [q]
    rfl
end
end Mk
set_option maxHeartbeats 4000000
/-! Mk: lowest, highest, cost, least_sum: what they tell, and that it is the least. -/
namespace Mk
open PySem L2 Cm
/-- a place of the lowest or the highest placing -/
def plF (low : Bool) (sp : Option (Int × Int)) (row : List Lab) (i : Nat) : Int := hgt low sp row i + ah row i
def plS (low : Bool) (sp : Option (Int × Int)) (row : List Lab) : List Int := (List.range row.length).map (plF low sp row)
def costL (row : List Lab) (ps : List Int) : Int := ((row.zip ps).map fun p => p.1.t * absI (p.2 - p.1.w)).sum
def leastS (sp : Option (Int × Int)) (row : List Lab) : Int := costL row (plS true sp row)
section
variable {D : Defs} {cs : Cons} {fns : Tab} {ci : ClsI}
def ChPlacingOk (ci : ClsI) (fns : Tab) : Prop := ∀ sp (row : List Lab) (low : Bool), 0 < row.length → row.length < 64 → valOf fns "Chain.placing" [chainT ci sp row, .bl low] = some (mt (.tup ((plS low sp row).map .int)))
theorem chplacing_ok (hc : cs "Chain" = some (.cl ci)) (hd : D.lookup ("Chain.placing" : Str) = some P_Chain_placing.d) (h1 : ChHeightsOk ci fns) : ChPlacingOk ci (stepT D cs fns) := by
  intro sp row low h0 hr
  obtain ⟨m, e1, e2⟩ := h1 sp row low h0 hr
  have k : clsC ⟨cs, fns, []⟩ "Chain" = some ci := clsM hc
  have z : zipT ((List.range row.length).map fun i => T.int (hgt low sp row i)) (aheadL row) = ((List.range row.length).zip (List.range row.length)).map fun p => T.tup [.int (hgt low sp row p.1), .int (ah row p.2)] := zipT_zip _ _ _ _
  have zz : ((List.range row.length).zip (List.range row.length)).map (fun p => T.int (hgt low sp row p.1 + ah row p.2)) = (plS low sp row).map .int := by
    unfold plS
    rw [List.map_map]
    apply List.ext_getElem
    · simp
    · intro i h1 h2
      simp [plF]
  simp only [chainT, chainF] at e1
  rw [val_step (d := P_Chain_placing.d) hd rfl]
  simp [run, P_Chain_placing.d, Df.gc, ev_methp, k, chainT, chainF, ev_compq, turnV_eq, e1, e2, ev_fld, fldK, z, zz]
def LookOk (fns : Tab) : Prop := ∀ (b c : Bool) (sp : Option (Int × Int)) (row : List Lab), row.length ≤ 100 → full sp row = false → valOf fns "look_room" [spT b sp, rowT c row] = some (mt .non)
theorem look_ok (hd : D.lookup ("look_room" : Str) = some P_look_room.d) (h : FullOk fns) : LookOk (stepT D cs fns) := by
  intro b c sp row hr hf
  have e := h b c sp row hr
  rw [hf] at e
  rw [val_step (d := P_look_room.d) hd rfl]
  simp [run, P_look_room.d, Df.gc, e]
def EndOk (f : Str) (low : Bool) (fns : Tab) : Prop := ∀ (b c : Bool) (sp : Option (Int × Int)) (row : List Lab), 0 < row.length → row.length < 64 → full sp row = false → valOf fns f [spT b sp, rowT c row] = some (mt (.tup ((plS low sp row).map .int)))
theorem made_chain {G : Gc} {F : Fn} {b c : Bool} {sp : Option (Int × Int)} {row : List Lab} (k : clsC G "Chain" = some ci) (hF : G.fns "Chain.__init__" = some F) (FI : ChInitOk ci F) (hr : row.length ≤ 100) {ρ : Slots} (h0 : ρ[0]? = some (some (mt (spT b sp)))) (h1 : ρ[1]? = some (some (mt (rowT c row)))) :
    ∃ fs, ev G (.new "Chain.__init__" "Chain" 4 (.cons (.var 0) (.cons (.var 1) .nil))) ρ = some (.ob ci fs, ρ) ∧ (M.ob ci fs).frz = some (chainT ci sp row) := by
  obtain ⟨r, e0⟩ := FI.sem b c sp row hr
  have mu := FI.mu
  refine ⟨_, by simp [ev_new, k, hF, mu, h0, h1, e0, madeOf]; rfl, rfl⟩
theorem lowestS_ok (hc : cs "Chain" = some (.cl ci)) (hd : D.lookup ("lowest" : Str) = some P_lowest_2.d) (h0 : LookOk fns) (h1 : Has "Chain.__init__" (ChInitOk ci) fns) (h2 : ChPlacingOk ci fns) : EndOk "lowest" true (stepT D cs fns) := by
  intro b c sp row hn hr hf
  obtain ⟨F, hF, FI⟩ := h1
  have k : clsC ⟨cs, fns, []⟩ "Chain" = some ci := clsM hc
  have e0 := h0 b c sp row (by omega) hf
  have e2 := h2 sp row true hn hr
  obtain ⟨fs, n1, n2⟩ := made_chain (G := ⟨cs, fns, []⟩) (b := b) (c := c) (sp := sp) (row := row) k hF FI (by omega) (ρ := [some (mt (spT b sp)), some (mt (rowT c row))]) rfl rfl
  rw [val_step (d := P_lowest_2.d) hd rfl]
  rw [frz_ob] at n2
  simp only [chainT] at e2 n2
  simp [run, P_lowest_2.d, Df.gc, ev_methp, k, e0, n1, n2, e2]
theorem highestS_ok (hc : cs "Chain" = some (.cl ci)) (hd : D.lookup ("highest" : Str) = some P_highest.d) (h0 : LookOk fns) (h1 : Has "Chain.__init__" (ChInitOk ci) fns) (h2 : ChPlacingOk ci fns) : EndOk "highest" false (stepT D cs fns) := by
  intro b c sp row hn hr hf
  obtain ⟨F, hF, FI⟩ := h1
  have k : clsC ⟨cs, fns, []⟩ "Chain" = some ci := clsM hc
  have e0 := h0 b c sp row (by omega) hf
  have e2 := h2 sp row false hn hr
  obtain ⟨fs, n1, n2⟩ := made_chain (G := ⟨cs, fns, []⟩) (b := b) (c := c) (sp := sp) (row := row) k hF FI (by omega) (ρ := [some (mt (spT b sp)), some (mt (rowT c row))]) rfl rfl
  rw [val_step (d := P_highest.d) hd rfl]
  rw [frz_ob] at n2
  simp only [chainT] at e2 n2
  simp [run, P_highest.d, Df.gc, ev_methp, k, e0, n1, n2, e2]
/-- weights that fit -/
def WtS (row : List Lab) : Prop := ∀ l ∈ row, 1 ≤ l.t ∧ l.t ≤ 1000000
theorem absI_ite (x : Int) : (if x < 0 then -x else x) = absI x := rfl
def CostOk (fns : Tab) : Prop := ∀ (b c : Bool) (row : List Lab) (ps : List Int), WtS row → valOf fns "cost" [rowT b row, .sq c (ps.map .int)] = some (mt (.int (costL row ps)))
theorem cost_ok (hd : D.lookup ("cost" : Str) = some P_cost.d) : CostOk (stepT D cs fns) := by
  intro b c row ps hw
  have z : zipT (row.map (Lab.m b)) (ps.map T.int) = (row.zip ps).map fun p => T.tup [Lab.m b p.1, .int p.2] := zipT_zip _ _ _ _
  have e := ps_sum ((row.zip ps).map fun p => p.1.t * absI (p.2 - p.1.w))
  rw [List.map_map] at e
  obtain ⟨G, hG⟩ : ∃ G : Gc, G = P_cost.d.gc cs fns := ⟨_, rfl⟩
  have hGp : G.pin = [] := by rw [hG]; rfl
  have q : ev G (.comp [2, 3] (.t2 (.nm 2) (.nm 3)) (.zip (.var 0) (.var 1)) .nil (.op .mul (.cons (.op .idx (.cons (.var 2) (.cons (.k (.int 3)) .nil))) (.cons (.op .abs (.cons (.op .sub (.cons (.var 3) (.cons (.op .idx (.cons (.var 2) (.cons (.k (.int 1)) .nil))) .nil))) .nil)) .nil)))) [some (mt (rowT b row)), some (mt (.sq c (ps.map .int))), none, none] =
      some (.bx (.ls ((row.zip ps).map fun p => T.int (p.1.t * absI (p.2 - p.1.w)))), [some (mt (rowT b row)), some (mt (.sq c (ps.map .int))), none, none]) := by
    simp [ev_compq, turnV_eq, hGp, rowT, z]
    rw [filterO_map_ok (fun p => T.int (p.1.t * absI (p.2 - p.1.w))) fun p hp => ?_, obd_ok]
    have := hw p.1 (List.of_mem_zip hp).1
    have m := ps_mul1 (a := p.1.t) (b := absI (p.2 - p.1.w)) (by omega)
    rw [show (if p.2 - p.1.w < 0 then -(p.2 - p.1.w) else p.2 - p.1.w) = absI (p.2 - p.1.w) from rfl]
    simp [m]
  have e : primSem .sum [.lst ((row.zip ps).map fun p => T.int (p.1.t * absI (p.2 - p.1.w)))] = some (mt (.int (costL row ps))) := e
  rw [val_step (d := P_cost.d) hd rfl, ← hG]
  unfold run
  rw [show P_cost.d.body = P_cost.b from rfl]
  rw [show ([rowT b row, T.sq c (ps.map .int)].map mt).map some ++ List.replicate (P_cost.d.n - ([rowT b row, T.sq c (ps.map .int)].map mt).length) none = [some (mt (rowT b row)), some (mt (.sq c (ps.map .int))), none, none] from rfl]
  simp [q, e, P_cost.d]
def LSumOk (fns : Tab) : Prop := ∀ (b c : Bool) (sp : Option (Int × Int)) (row : List Lab), 0 < row.length → row.length < 64 → WtS row → full sp row = false → valOf fns "least_sum" [spT b sp, rowT c row] = some (mt (.int (leastS sp row)))
theorem leastsum_ok (hd : D.lookup ("least_sum" : Str) = some P_least_sum.d) (h1 : EndOk "lowest" true fns) (h2 : CostOk fns) : LSumOk (stepT D cs fns) := by
  intro b c sp row hn hr hw hf
  have e1 := h1 b c sp row hn hr hf
  have e2 := h2 c false row (plS true sp row) hw
  rw [sq_f] at e2
  rw [val_step (d := P_least_sum.d) hd rfl]
  simp [run, P_least_sum.d, Df.gc, e1, e2, leastS]
end
/-! ### what is told is the least -/
def sz (row : List Lab) (i : Nat) : Int := ((row[i]?).map (·.s)).getD 0
theorem sz_at {row : List Lab} {i : Nat} (h : i < row.length) : sz row i = row[i].s := by simp [sz, h]
theorem ah_succ {row : List Lab} {i : Nat} (h : i < row.length) : ah row (i + 1) = ah row i + sz row i := by
  unfold ah total
  rw [List.take_succ_eq_append_getElem h, List.map_append, List.sum_append, sz_at h]
  simp
theorem ah_0 (row : List Lab) : ah row 0 = 0 := rfl
theorem ah_all (row : List Lab) : ah row row.length = total row := by unfold ah; rw [List.take_length]
def Plc (sp : Option (Int × Int)) (row : List Lab) (p : Nat → Int) : Prop := (∀ i, i + 1 < row.length → p i + sz row i ≤ p (i + 1)) ∧ ∀ q, sp = some q → q.1 ≤ p 0 ∧ p (row.length - 1) + sz row (row.length - 1) ≤ q.2
def costP (row : List Lab) (p : Nat → Int) : Int := sumN row.length fun i => wtA row i * absI (p i - wi row i)
theorem costL_P {row : List Lab} {ps : List Int} {p : Nat → Int} (h : ps = (List.range row.length).map p) : costL row ps = costP row p := by
  unfold costL costP
  rw [← sum_range]
  congr 1
  subst h
  apply List.ext_getElem
  · simp
  · intro i h1 h2
    simp at h1
    simp [wtA_at h1, wi_at h1]
theorem costP_F (row : List Lab) (p : Nat → Int) : costP row p = costF (dA row) (wtA row) row.length fun i => p i - ah row i := by
  unfold costP costF dA
  exact sumN_congr fun i hi => by rw [show p i - wi row i = p i - ah row i - (wi row i - ah row i) by omega]
theorem rise_of {n : Nat} {y : Nat → Int} (h : ∀ i, i + 1 < n → y i ≤ y (i + 1)) : Rise n y := by
  intro i j hij hj
  induction j with
  | zero => have : i = 0 := by omega
            subst this; exact Int.le_refl _
  | succ j ih =>
    by_cases e : i = j + 1
    · subst e; exact Int.le_refl _
    · have := ih (by omega) (by omega)
      have := h j hj
      omega
theorem Plc.rise {sp : Option (Int × Int)} {row : List Lab} {p : Nat → Int} (h : Plc sp row p) : Rise row.length fun i => p i - ah row i := rise_of fun i hi => by
  have := h.1 i hi
  have := ah_succ (row := row) (i := i) (by omega)
  show p i - ah row i ≤ p (i + 1) - ah row (i + 1)
  omega
theorem Plc.within {sp : Option (Int × Int)} {row : List Lab} {p : Nat → Int} (h : Plc sp row p) : Within (chE sp row) row.length fun i => p i - ah row i := by
  intro q hq i hi
  cases sp with
  | none => cases hq
  | some e =>
    have hq : (e.1, e.2 - total row) = q := Option.some.inj hq
    subst hq
    obtain ⟨a, b⟩ := h.2 e rfl
    have r1 := h.rise 0 i (Nat.zero_le _) hi
    have r2 := h.rise i (row.length - 1) (by omega) (by omega)
    have r1 : p 0 - ah row 0 ≤ p i - ah row i := r1
    have r2 : p i - ah row i ≤ p (row.length - 1) - ah row (row.length - 1) := r2
    have e1 := ah_succ (row := row) (i := row.length - 1) (by omega)
    rw [show row.length - 1 + 1 = row.length by omega, ah_all] at e1
    rw [ah_0] at r1
    show e.1 ≤ p i - ah row i ∧ p i - ah row i ≤ e.2 - total row
    omega
theorem chE_ok {sp : Option (Int × Int)} {row : List Lab} (hf : full sp row = false) : ∀ q, chE sp row = some q → q.1 ≤ q.2 := by
  intro q hq
  cases sp with
  | none => cases hq
  | some e =>
    have hq : (e.1, e.2 - total row) = q := Option.some.inj hq
    subst hq
    have hf : decide (e.2 - e.1 < total row) = false := hf
    have := of_decide_eq_false hf
    show e.1 ≤ e.2 - total row
    omega
theorem WtS.ge {row : List Lab} (h : WtS row) : ∀ l ∈ row, 1 ≤ l.t := fun l hl => (h l hl).1
theorem end_plc {sp : Option (Int × Int)} {row : List Lab} (low : Bool) (h0 : 0 < row.length) (hw : WtS row) (hf : full sp row = false) : Plc sp row (plF low sp row) := by
  have b := zV_best low h0 hw.ge
  have r : Rise row.length (hgt low sp row) := inE_rise b.rise
  refine ⟨fun i hi => ?_, fun q hq => ?_⟩
  · have := r i (i + 1) (by omega) hi
    have := ah_succ (row := row) (i := i) (by omega)
    unfold plF
    omega
  · have w : Within (chE sp row) row.length (hgt low sp row) := inE_within (chE_ok hf)
    subst hq
    have w0 := w (q.1, q.2 - total row) rfl 0 h0
    have w1 := w (q.1, q.2 - total row) rfl (row.length - 1) (by omega)
    have e1 := ah_succ (row := row) (i := row.length - 1) (by omega)
    rw [show row.length - 1 + 1 = row.length by omega, ah_all] at e1
    have a0 := ah_0 row
    have w0 : q.1 ≤ hgt low (some q) row 0 := w0.1
    have w1 : hgt low (some q) row (row.length - 1) ≤ q.2 - total row := w1.2
    unfold plF
    omega
theorem end_opt {sp : Option (Int × Int)} {row : List Lab} (low : Bool) (h0 : 0 < row.length) (hw : WtS row) (hf : full sp row = false) {p : Nat → Int} (hp : Plc sp row p) :
    costP row (plF low sp row) ≤ costP row p ∧ (costP row p ≤ costP row (plF low sp row) → ∀ i, i < row.length → if low = true then plF low sp row i ≤ p i else p i ≤ plF low sp row i) := by
  have b := zV_best low h0 hw.ge
  have o := opt b (chE_ok hf) hp.rise hp.within
  have e : costP row (plF low sp row) = costF (dA row) (wtA row) row.length fun i => inE (chE sp row) (zV low row i) := by
    rw [costP_F]
    unfold costF
    exact sumN_congr fun i hi => by
      show _ * absI (plF low sp row i - ah row i - dA row i) = wtA row i * absI (hgt low sp row i - dA row i)
      unfold plF
      rw [Int.add_sub_cancel]
  rw [e, costP_F]
  refine ⟨o.1, fun h i hi => ?_⟩
  have := o.2 h i hi
  unfold plF hgt
  cases low with
  | true => rw [if_pos rfl] at this ⊢; omega
  | false => rw [if_neg Bool.false_ne_true] at this ⊢; omega
theorem least_P (sp : Option (Int × Int)) (row : List Lab) : leastS sp row = costP row (plF true sp row) := costL_P rfl
/-- the least sum: reached, never beaten -/
theorem least_le_cost {sp : Option (Int × Int)} {row : List Lab} (h0 : 0 < row.length) (hw : WtS row) (hf : full sp row = false) {p : Nat → Int} (hp : Plc sp row p) : leastS sp row ≤ costP row p := by
  rw [least_P]
  exact (end_opt true h0 hw hf hp).1
theorem end_cost {sp : Option (Int × Int)} {row : List Lab} (low : Bool) (h0 : 0 < row.length) (hw : WtS row) (hf : full sp row = false) : costP row (plF low sp row) = leastS sp row := by
  rw [least_P]
  have a := (end_opt low h0 hw hf (end_plc true h0 hw hf)).1
  have b := (end_opt true h0 hw hf (end_plc low h0 hw hf)).1
  omega
theorem low_le_high {sp : Option (Int × Int)} {row : List Lab} (h0 : 0 < row.length) (hw : WtS row) (hf : full sp row = false) {i : Nat} (hi : i < row.length) : plF true sp row i ≤ plF false sp row i := by
  have a := end_cost true h0 hw hf
  have b := end_cost false h0 hw hf
  have := (end_opt true h0 hw hf (end_plc false h0 hw hf)).2 (by omega) i hi
  rwa [if_pos rfl] at this
end Mk
set_option maxHeartbeats 4000000
/-! Mk: a law that draws so many times from each of its boxes. -/
namespace Mk
open PySem L2
section
variable {D : Defs} {cs : Cons} {fns : Tab}
structure RightN (F : Fn) (c : Nat) : Prop where
  mu : F.mu = [true]
  sem : ∀ {x : Box} {n : Nat}, x.ok (n + c) → ∃ y : Box, F.sem [x.m] = some (mt (.bl true), [some y.m]) ∧ y.ok n
abbrev lawR.s0 (m : Int) : S := (.asg (.nm 1) (.callp "_law_cells" (.cons (.var 0) (.cons (.k (.int m)) .nil))))
abbrev lawR.e (r : Int) : E := (.comp [4] (.nm 4) (.range1 (.k (.int r))) .nil (.call "_law_right" (.cons (.var 3) .nil)))
abbrev lawR.t0 : S := (.asg (.nm 3) (.callp "_law_box" (.cons (.var 1) (.cons (.var 2) .nil))))
abbrev lawR.t1 (r : Int) : S := (.ifs (.not (.val (.op .all (.cons (lawR.e r) .nil)))) (.seq (.ret (.k (.bl false))) .skip) .skip)
abbrev lawR.t (r : Int) : S := (.seq lawR.t0 (.seq (lawR.t1 r) (.fg [2, 3] .skip)))
abbrev lawR.s1 (r : Int) : S := (.for_ (.nm 2) (.range1 (.op .len (.cons (.var 1) .nil))) (lawR.t r))
abbrev lawR.s2 : S := (.ret (.k (.bl true)))
abbrev lawR.b (m r : Int) : S := (.seq (lawR.s0 m) (.fz [1] (.seq (lawR.s1 r) (.seq lawR.s2 .skip))))
def lawR.d (m r : Int) : Df := ⟨[false], 5, lawR.b m r⟩
theorem all_bl : ∀ {ts : List T}, (∀ t ∈ ts, t = .bl true) → primSem .all [.lst ts] = some (mt (.bl true)) := by
  intro ts h
  have e : ts = ts.map fun _ => .bl true := by
    induction ts with
    | nil => rfl
    | cons t ts ih => rw [List.map_cons, ← ih fun u hu => h u (List.mem_cons_of_mem _ hu), h t List.mem_cons_self]
  rw [e]
  exact all_true
theorem lawR_ok {F : Fn} {m r c : Nat} (hd : D.lookup ("law" : Str) = some (lawR.d (m : Int) (r : Int))) (hm : 0 < m) (hm2 : m ≤ 63) (hr : c * r ≤ 1000000) (hr2 : r ≤ 1000) (hC : CellsOk fns) (hB : BoxOk fns) (hF : fns "_law_right" = some F) (H : RightN F c) : LawOk (stepT D cs fns) := by
  intro ns hn
  have mu := H.mu
  obtain ⟨ys, e1, h0, h1⟩ := hC (ns := ns) (m := m) hm hm2
  rw [val_step (d := lawR.d m r) hd rfl]
  obtain ⟨G, hG⟩ : ∃ G : Gc, G = (lawR.d m r).gc cs fns := ⟨_, rfl⟩
  have hGp : G.pin = [] := by rw [hG]; rfl
  have hFn : G.fns = fns := by rw [hG]; rfl
  have e1 : valOf G.fns "_law_cells" [.rd ns, .int (m : Int)] = some (.bx (.ls (ys.map .int))) := by rw [hG]; exact e1
  have s0 : ex G (lawR.s0 m) [some (mt (.rd ns)), none, none, none, none] = some (.next, [some (mt (.rd ns)), some (.bx (.ls (ys.map .int))), none, none, none]) := by
    rw [asg_ok (ρ' := [some (mt (.rd ns)), none, none, none, none]) (m := .bx (.ls (ys.map .int))) (by simp [e1]) (by simp) (by rw [hGp]; simp)]
    rfl
  have comp : ∀ (k : Nat) (x : Box), x.ok 1000000 → ∃ (ts : List T) (y : Box), ev G (lawR.e r) [some (mt (.rd ns)), some (mt (.lst (ys.map .int))), some (mt (.int (k : Int))), some x.m, none] = some (.bx (.ls ts), [some (mt (.rd ns)), some (mt (.lst (ys.map .int))), some (mt (.int (k : Int))), some y.m, none]) ∧ ∀ t ∈ ts, t = .bl true := by
    intro k x hx
    rw [ev_comp, evI_range (n := r) (ρ' := [some (mt (.rd ns)), some (mt (.lst (ys.map .int))), some (mt (.int (k : Int))), some x.m, none]) (by simp) (by omega), bnd_ok]
    obtain ⟨ts, ρ', a1, a2, a3, y, v, a4, rfl⟩ := compL_st (own := [4]) (f := turnF G (.nm 4) .nil (.call "_law_right" (.cons (.var 3) .nil))) (Q := fun t => t = .bl true)
      (I := fun n ρ => ∃ (y : Box) (v : Option M), y.ok n ∧ ρ = [some (mt (.rd ns)), some (mt (.lst (ys.map .int))), some (mt (.int (k : Int))), some y.m, v]) c (xs := (List.range r).map fun (i : Nat) => T.int (i : Int)) (n := 0)
      (ρ := [some (mt (.rd ns)), some (mt (.lst (ys.map .int))), some (mt (.int (k : Int))), some x.m, none]) (by
        rintro t ht n ρ ⟨y, v, oy, rfl⟩
        obtain ⟨z, b1, b2⟩ := H.sem (n := n) oy
        refine ⟨.bl true, [some (mt (.rd ns)), some (mt (.lst (ys.map .int))), some (mt (.int (k : Int))), some z.m, some (mt t)], ?_, rfl, z, _, b2, rfl⟩
        simp [turnF, hGp, hFn, hF, mu, b1]) ⟨x, none, hx.mono (by simpa using hr), rfl⟩
    refine ⟨ts, y, ?_, a3⟩
    show bnd (compL [4] (turnF G (.nm 4) .nil (.call "_law_right" (.cons (.var 3) .nil))) _ _) _ = _
    rw [a1, bnd_ok]
    simp
  have loop : ∃ ρ', ex G (lawR.s1 r) [some (mt (.rd ns)), some (mt (.lst (ys.map .int))), none, none, none] = some (.next, ρ') ∧ ρ' = [some (mt (.rd ns)), some (mt (.lst (ys.map .int))), none, none, none] := by
    rw [ex_for, evI_range (n := ys.length) (ρ' := [some (mt (.rd ns)), some (mt (.lst (ys.map .int))), none, none, none]) (by simp) (by omega), bnd_ok]
    obtain ⟨ρ', b1, b2⟩ := forL_run2 (mk := fun i : Nat => T.int (i : Int)) (f := fun x ρ => obd ((Tg.nm 2).store G.pin x ρ) fun ρ => ex G (lawR.t r) ρ)
      (fun _ ρ => ρ = [some (mt (.rd ns)), some (mt (.lst (ys.map .int))), none, none, none]) (all := List.range ys.length) (xs := List.range ys.length) (done := []) rfl rfl (by
        rintro done i rest ρ he rfl
        have hi : i < ys.length := List.mem_range.mp (by rw [he]; simp)
        obtain ⟨x, c1, c2⟩ := hB (ns := ys) hi (by omega)
        obtain ⟨ts, y, d1, d2⟩ := comp i x c2
        refine ⟨.next, _, ?_, .inl rfl, rfl⟩
        have st : (Tg.nm 2).store G.pin (T.int (i : Int)) [some (mt (.rd ns)), some (mt (.lst (ys.map .int))), none, none, none] = some [some (mt (.rd ns)), some (mt (.lst (ys.map .int))), some (mt (.int (i : Int))), none, none] := by
          simp [hGp]
        have t0 : ex G lawR.t0 [some (mt (.rd ns)), some (mt (.lst (ys.map .int))), some (mt (.int (i : Int))), none, none] = some (.next, [some (mt (.rd ns)), some (mt (.lst (ys.map .int))), some (mt (.int (i : Int))), some x.m, none]) := by
          simp [hGp, hFn, c1]
        have cond : evC G (.not (.val (.op .all (.cons (lawR.e r) .nil)))) [some (mt (.rd ns)), some (mt (.lst (ys.map .int))), some (mt (.int (i : Int))), some x.m, none] = some (false, [some (mt (.rd ns)), some (mt (.lst (ys.map .int))), some (mt (.int (i : Int))), some y.m, none]) := by
          rw [evC_not, evC_val, slot_op, v1_e, ev_op, evs_c, slot_comp]
          show bnd (bnd (bnd (bnd (bnd (ev G (lawR.e r) _) _) _) _) _) _ = _
          rw [d1, bnd_ok]
          simp [all_bl d2]
        have t1 : ex G (lawR.t1 r) [some (mt (.rd ns)), some (mt (.lst (ys.map .int))), some (mt (.int (i : Int))), some x.m, none] = some (.next, [some (mt (.rd ns)), some (mt (.lst (ys.map .int))), some (mt (.int (i : Int))), some y.m, none]) := by
          rw [ex_ifs, cond, bnd_ok]
          rfl
        show obd ((Tg.nm 2).store G.pin (T.int (i : Int)) _) _ = _
        rw [st, obd_ok, ex_seq, t0, bnd_ok, ex_seq, t1, bnd_ok]
        simp)
    exact ⟨ρ', b1, b2⟩
  obtain ⟨ρ', b1, rfl⟩ := loop
  rw [← hG]
  unfold run
  rw [show (lawR.d m r).body = lawR.b m r from rfl]
  rw [show ([T.rd ns].map mt).map some ++ List.replicate ((lawR.d m r).n - ([T.rd ns].map mt).length) none = [some (mt (.rd ns)), none, none, none, none] from rfl]
  rw [ex_seq, s0, bnd_ok]
  simp only [ex_fz, frzS_c, frzS_n, List.getElem?_cons_succ, List.getElem?_cons_zero, List.set_cons_succ, List.set_cons_zero, frz_ls]
  rw [ex_seq, b1, bnd_ok]
  simp [lawR.d]
end
end Mk
set_option maxHeartbeats 4000000
/-! Mk: the draws, put together once. -/
namespace Mk
open PySem L2
section
variable {D : Defs} {cs : Cons}
/-- the draws -/
structure DrawDefs (D : Defs) : Prop where
  take : D.lookup ("_law_take" : Str) = some Ltake_2.d
  box : D.lookup ("_law_box" : Str) = some Lbox.d
  cells : D.lookup ("_law_cells" : Str) = some Lcells.d
  total : D.lookup ("_law_total" : Str) = some Ltotal.d
  of : D.lookup ("_law_of" : Str) = some Lof.d
  labels : D.lookup ("_law_labels" : Str) = some Llabels.d
  edges : D.lookup ("_law_edges" : Str) = some Ledges.d
structure DrawLib (t : Tab) : Prop where
  take : Has "_law_take" TakeOk t
  box : BoxOk t
  cells : CellsOk t
  total : TotalOk t
  of : Has "_law_of" OfOk t
  labels : Has "_law_labels" LabelsOk t
  edges : Has "_law_edges" EdgesOk t
theorem draw_lib (h : DrawDefs D) (n : Nat) (hn : 3 ≤ n) : DrawLib (tabN D cs n) := by
  have take : ∀ n, 1 ≤ n → Has "_law_take" TakeOk (tabN D cs n) := base fun fns => ⟨_, at_step h.take, take_ok⟩
  have box : ∀ n, 1 ≤ n → BoxOk (tabN D cs n) := base fun fns => box_ok h.box
  have cells : ∀ n, 1 ≤ n → CellsOk (tabN D cs n) := base fun fns => cells_ok h.cells
  have total : ∀ n, 1 ≤ n → TotalOk (tabN D cs n) := base fun fns => total_ok h.total
  have of : ∀ n, 2 ≤ n → Has "_law_of" OfOk (tabN D cs n) := deep take fun fns ⟨F, h1, h2⟩ => ⟨_, at_step h.of, of_ok h1 h2⟩
  have labels : ∀ n, 2 ≤ n → Has "_law_labels" LabelsOk (tabN D cs n) := deep take fun fns ⟨F, h1, h2⟩ => ⟨_, at_step h.labels, labels_ok h1 h2⟩
  have edges : ∀ n, 3 ≤ n → Has "_law_edges" EdgesOk (tabN D cs n) := deep (P := fun t => Has "_law_take" TakeOk t ∧ Has "_law_of" OfOk t ∧ TotalOk t) (fun n hn => ⟨take n (by omega), of n hn, total n (by omega)⟩)
    fun fns ⟨⟨F, h1, h2⟩, ⟨F2, h3, h4⟩, h5⟩ => ⟨_, at_step h.edges, edges_ok h1 h2 h3 h4 h5⟩
  exact ⟨take n (by omega), box n (by omega), cells n (by omega), total n (by omega), of n (by omega), labels n (by omega), edges n hn⟩
theorem same_lib (h : D.lookup ("_law_same" : Str) = some Lsame.d) : ∀ k n, k + 1 ≤ n → SameOk k (tabN D cs n) := by
  intro k
  induction k with
  | zero => exact base fun fns => same_ok h fun k e => by cases e
  | succ k ih => exact deep ih fun fns h2 => same_ok h fun j e => by cases e; exact h2
theorem lists_lib (h : D.lookup ("_law_lists" : Str) = some Llists.d) : ∀ k n, k + 1 ≤ n → ListsOk k (tabN D cs n) := by
  intro k
  induction k with
  | zero => exact base fun fns => lists_ok h fun k e => by cases e
  | succ k ih => exact deep ih fun fns h2 => lists_ok h fun j e => by cases e; exact h2
theorem tupled_lib (h : D.lookup ("tupled" : Str) = some P_tupled.d) : ∀ k n, k + 1 ≤ n → TupledOk k (tabN D cs n) := by
  intro k
  induction k with
  | zero => exact base fun fns => tupled_ok h fun k e => by cases e
  | succ k ih => exact deep ih fun fns h2 => tupled_ok h fun j e => by cases e; exact h2
end
end Mk
set_option maxHeartbeats 4000000
/-! Mk: what the laws of sums lean on, put together once. -/
namespace Mk
open PySem L2 Cm
section
variable {D : Defs} {cs : Cons} {ci : ClsI}
structure SumDefs (D : Defs) : Prop where
  sizes : D.lookup ("sizes_ahead" : Str) = some P_sizes_ahead.d
  full : D.lookup ("is_full" : Str) = some P_is_full.d
  tupled : D.lookup ("tupled" : Str) = some P_tupled.d
  look : D.lookup ("look_room" : Str) = some P_look_room.d
  init : D.lookup ("Chain.__init__" : Str) = some P_Chain_init.d
  manyL : D.lookup ("Chain.many!" : Str) = some P_Chain_many_l.d
  many : D.lookup ("Chain.many" : Str) = some P_Chain_many.d
  weight : D.lookup ("Chain.weight" : Str) = some P_Chain_weight.d
  slope : D.lookup ("Chain.slope" : Str) = some P_Chain_slope.d
  first : D.lookup ("Chain.first_above" : Str) = some P_Chain_first_above.d
  heights : D.lookup ("Chain.heights" : Str) = some P_Chain_heights.d
structure SumLib (ci : ClsI) (t : Tab) : Prop where
  look : LookOk t
  init : Has "Chain.__init__" (ChInitOk ci) t
  many : ChManyOk ci t
  weight : ChWeightOk ci t
  heights : ChHeightsOk ci t
theorem sum_lib (hc : cs "Chain" = some (.cl ci)) (h : SumDefs D) (n : Nat) (hn : 5 ≤ n) : SumLib ci (tabN D cs n) := by
  have sizes : ∀ n, 1 ≤ n → SizesOk (tabN D cs n) := base fun fns => sizes_ok h.sizes
  have full : ∀ n, 2 ≤ n → FullOk (tabN D cs n) := deep sizes fun fns h2 => full_ok h.full h2
  have look : ∀ n, 3 ≤ n → LookOk (tabN D cs n) := deep full fun fns h2 => look_ok h.look h2
  have manyL : ∀ n, 1 ≤ n → Has "Chain.many!" (ManyLOk ci) (tabN D cs n) := base fun fns => ⟨_, at_step h.manyL, manyL_ok hc⟩
  have many : ∀ n, 1 ≤ n → ChManyOk ci (tabN D cs n) := base fun fns => chmany_ok hc h.many
  have weight : ∀ n, 1 ≤ n → ChWeightOk ci (tabN D cs n) := base fun fns => chweight_ok hc h.weight
  have slope : ∀ n, 2 ≤ n → ChSlopeOk ci (tabN D cs n) := deep (P := fun t => ChManyOk ci t ∧ ChWeightOk ci t) (fun n hn => ⟨many n hn, weight n hn⟩) fun fns h2 => chslope_ok hc h.slope h2.1 h2.2
  have first : ∀ n, 3 ≤ n → ChFirstOk ci (tabN D cs n) := deep (P := fun t => ChManyOk ci t ∧ ChSlopeOk ci t) (fun n hn => ⟨many n (by omega), slope n hn⟩) fun fns h2 => chfirst_ok hc h.first h2.1 h2.2
  have heights : ∀ n, 4 ≤ n → ChHeightsOk ci (tabN D cs n) := deep (P := fun t => ChManyOk ci t ∧ ChFirstOk ci t) (fun n hn => ⟨many n (by omega), first n hn⟩) fun fns h2 => chheights_ok hc h.heights h2.1 h2.2
  have init : ∀ n, 5 ≤ n → Has "Chain.__init__" (ChInitOk ci) (tabN D cs n) := deep (P := fun t => TupledOk 3 t ∧ Has "Chain.many!" (ManyLOk ci) t) (fun n hn => ⟨tupled_lib h.tupled 3 n hn, manyL n (by omega)⟩) fun fns h2 => ⟨_, at_step h.init, chinit_ok hc h2.1 h2.2⟩
  exact ⟨look n (by omega), init n hn, many n (by omega), weight n (by omega), heights n (by omega)⟩
structure EndDefs (D : Defs) : Prop where
  sum : SumDefs D
  placing : D.lookup ("Chain.placing" : Str) = some P_Chain_placing.d
  low : D.lookup ("lowest" : Str) = some P_lowest_2.d
theorem placing_lib (hc : cs "Chain" = some (.cl ci)) (h : SumDefs D) (hp : D.lookup ("Chain.placing" : Str) = some P_Chain_placing.d) (n : Nat) (hn : 6 ≤ n) : ChPlacingOk ci (tabN D cs n) :=
  deep (P := SumLib ci) (a := 5) (sum_lib hc h) (fun fns L => chplacing_ok hc hp L.heights) n hn
theorem low_lib (hc : cs "Chain" = some (.cl ci)) (h : EndDefs D) (n : Nat) (hn : 7 ≤ n) : EndOk "lowest" true (tabN D cs n) :=
  deep (P := fun t => SumLib ci t ∧ ChPlacingOk ci t) (a := 6) (fun n hn => ⟨sum_lib hc h.sum n (by omega), placing_lib hc h.sum h.placing n hn⟩) (fun fns L => lowestS_ok hc h.low L.1.look L.1.init L.2) n hn
theorem high_lib (hc : cs "Chain" = some (.cl ci)) (h : EndDefs D) (hh : D.lookup ("highest" : Str) = some P_highest.d) (n : Nat) (hn : 7 ≤ n) : EndOk "highest" false (tabN D cs n) :=
  deep (P := fun t => SumLib ci t ∧ ChPlacingOk ci t) (a := 6) (fun n hn => ⟨sum_lib hc h.sum n (by omega), placing_lib hc h.sum h.placing n hn⟩) (fun fns L => highestS_ok hc hh L.1.look L.1.init L.2) n hn
theorem lsum_lib (hc : cs "Chain" = some (.cl ci)) (h : EndDefs D) (hk : D.lookup ("cost" : Str) = some P_cost.d) (hl : D.lookup ("least_sum" : Str) = some P_least_sum.d) (n : Nat) (hn : 8 ≤ n) : LSumOk (tabN D cs n) :=
  deep (P := fun t => EndOk "lowest" true t ∧ CostOk t) (a := 7) (fun n hn => ⟨low_lib hc h n hn, base (fun fns => cost_ok hk) n (by omega)⟩) (fun fns L => leastsum_ok hl L.1 L.2) n hn
end
end Mk
set_option maxHeartbeats 4000000
/-! The law's text in the language, and that it reads so. -/
namespace K67
open PySem L2 Mk
/-- _law_right -/
abbrev Lright.s0bs0 : S := (.asg (.nm 2) (.call "_law_labels" (.cons (.var 0) (.cons (.op .add (.cons (.k (.int 1)) (.cons (.call "_law_take" (.cons (.var 0) (.cons (.k (.int 8)) .nil))) .nil))) (.cons (.k (.int 20)) .nil)))))
abbrev Lright.s0bs1 : S := (.par [6, 7] (.cons (.call "_law_take" (.cons (.var 0) (.cons (.op .len (.cons (.var 2) .nil)) .nil))) (.cons (.callp "least_sum" (.cons (.k .non) (.cons (.var 2) .nil))) .nil)))
abbrev Lright.s0bs2 : S := (.asg (.nm 3) (.op .idx (.cons (.var 2) (.cons (.var 6) .nil))))
abbrev Lright.s0bs3 : S := (.asg (.nm 4) (.op .add (.cons (.op .add (.cons (.sl (.var 2) .no (.some (.var 6))) (.cons (.tup (.cons (.op .add (.cons (.sl (.var 3) .no (.some (.k (.int 2)))) (.cons (.tup (.cons (.op .add (.cons (.op .idx (.cons (.var 3) (.cons (.k (.int 2)) .nil))) (.cons (.k (.int 1)) .nil))) (.cons (.op .idx (.cons (.var 3) (.cons (.k (.int 3)) .nil))) .nil))) .nil))) .nil)) .nil))) (.cons (.sl (.var 2) (.some (.op .add (.cons (.var 6) (.cons (.k (.int 1)) .nil)))) .no) .nil))))
abbrev Lright.s0bs4 : S := (.asg (.nm 5) (.op .min2 (.cons (.op .sum (.cons (.comp [11] (.nm 11) (.seq (.sl (.var 2) (.some (.op .add (.cons (.var 6) (.cons (.k (.int 1)) .nil)))) .no)) .nil (.op .idx (.cons (.var 11) (.cons (.k (.int 3)) .nil)))) .nil)) (.cons (.op .sum (.cons (.comp [11] (.nm 11) (.seq (.sl (.var 2) .no (.some (.op .add (.cons (.var 6) (.cons (.k (.int 1)) .nil)))))) .nil (.op .idx (.cons (.var 11) (.cons (.k (.int 3)) .nil)))) .nil)) .nil))))
abbrev Lright.s0bs5ts0 : S := (.ret (.k (.bl false)))
abbrev Lright.s0bs5tB : S := (.seq Lright.s0bs5ts0 .skip)
abbrev Lright.s0bs5eB : S := .skip
abbrev Lright.s0bs5 : S := (.ifs (.not (.val (.chain .le .le (.var 7) (.callp "least_sum" (.cons (.k .non) (.cons (.var 4) .nil))) (.op .add (.cons (.var 7) (.cons (.var 5) .nil)))))) Lright.s0bs5tB Lright.s0bs5eB)
abbrev Lright.s0bs6ts0 : S := (.par [9, 10] (.cons (.op .add (.cons (.k (.int 1)) (.cons (.call "_law_take" (.cons (.var 0) (.cons (.op .sub (.cons (.op .idx (.cons (.var 3) (.cons (.k (.int 2)) .nil))) (.cons (.k (.int 1)) .nil))) .nil))) .nil))) (.cons (.op .add (.cons (.k (.int 1)) (.cons (.call "_law_take" (.cons (.var 0) (.cons (.op .sub (.cons (.op .idx (.cons (.var 3) (.cons (.k (.int 3)) .nil))) (.cons (.k (.int 1)) .nil))) .nil))) .nil))) .nil)))
abbrev Lright.s0bs6ts1 : S := (.asg (.nm 8) (.tup (.cons (.tup (.cons (.op .idx (.cons (.var 3) (.cons (.k (.int 0)) .nil))) (.cons (.op .idx (.cons (.var 3) (.cons (.k (.int 1)) .nil))) (.cons (.var 9) (.cons (.var 10) .nil))))) (.cons (.tup (.cons (.k (.str "zz")) (.cons (.op .add (.cons (.op .idx (.cons (.var 3) (.cons (.k (.int 1)) .nil))) (.cons (.var 9) .nil))) (.cons (.op .sub (.cons (.op .idx (.cons (.var 3) (.cons (.k (.int 2)) .nil))) (.cons (.var 9) .nil))) (.cons (.op .sub (.cons (.op .idx (.cons (.var 3) (.cons (.k (.int 3)) .nil))) (.cons (.var 10) .nil))) .nil))))) .nil))))
abbrev Lright.s0bs6ts2ts0 : S := (.ret (.k (.bl false)))
abbrev Lright.s0bs6ts2tB : S := (.seq Lright.s0bs6ts2ts0 .skip)
abbrev Lright.s0bs6ts2eB : S := .skip
abbrev Lright.s0bs6ts2 : S := (.ifs (.val (.op .gt (.cons (.callp "least_sum" (.cons (.k .non) (.cons (.op .add (.cons (.op .add (.cons (.sl (.var 2) .no (.some (.var 6))) (.cons (.var 8) .nil))) (.cons (.sl (.var 2) (.some (.op .add (.cons (.var 6) (.cons (.k (.int 1)) .nil)))) .no) .nil))) .nil))) (.cons (.var 7) .nil)))) Lright.s0bs6ts2tB Lright.s0bs6ts2eB)
abbrev Lright.s0bs6tB : S := (.seq Lright.s0bs6ts0 (.seq Lright.s0bs6ts1 (.seq Lright.s0bs6ts2 .skip)))
abbrev Lright.s0bs6eB : S := .skip
abbrev Lright.s0bs6 : S := (.ifs (.and (.val (.op .gt (.cons (.op .idx (.cons (.var 3) (.cons (.k (.int 2)) .nil))) (.cons (.k (.int 1)) .nil)))) (.val (.op .gt (.cons (.op .idx (.cons (.var 3) (.cons (.k (.int 3)) .nil))) (.cons (.k (.int 1)) .nil))))) Lright.s0bs6tB Lright.s0bs6eB)
abbrev Lright.s0bB : S := (.seq Lright.s0bs0 (.fz [2] (.seq Lright.s0bs1 (.fz [6, 7] (.seq Lright.s0bs2 (.seq Lright.s0bs3 (.fz [4] (.seq Lright.s0bs4 (.seq Lright.s0bs5 (.seq Lright.s0bs6 (.fg [1, 2, 6, 7, 3, 4, 5] .skip)))))))))))
abbrev Lright.s0 : S := (.for_ (.nm 1) (.range1 (.k (.int 4))) Lright.s0bB)
abbrev Lright.s1 : S := (.ret (.k (.bl true)))
abbrev Lright.b : S := (.seq Lright.s0 (.seq Lright.s1 .skip))
def Lright.d : Df := ⟨[true], 12, Lright.b⟩
def Lright.N : List Str := ["_law_box_here", "_law_turn", "_law_r", "_law_one", "_law_wider", "_law_most", "_law_k", "_law_least", "_law_both", "_law_cut", "_law_part", "_law_own"]
def D : Defs := [(("sizes_ahead" : Str), Mk.P_sizes_ahead.d), (("is_full" : Str), Mk.P_is_full.d), (("tupled" : Str), Mk.P_tupled.d), (("look_room" : Str), Mk.P_look_room.d), (("Chain.__init__" : Str), Mk.P_Chain_init.d), (("Chain.many" : Str), Mk.P_Chain_many.d), (("Chain.weight" : Str), Mk.P_Chain_weight.d), (("Chain.slope" : Str), Mk.P_Chain_slope.d), (("Chain.first_above" : Str), Mk.P_Chain_first_above.d), (("Chain.heights" : Str), Mk.P_Chain_heights.d), (("Chain.placing" : Str), Mk.P_Chain_placing.d), (("Chain.pushed" : Str), Mk.P_Chain_pushed.d), (("cost" : Str), Mk.P_cost.d), (("lowest" : Str), Mk.P_lowest_2.d), (("least_sum" : Str), Mk.P_least_sum.d), (("_law_box" : Str), Mk.Lbox.d), (("_law_take" : Str), Mk.Ltake.d), (("_law_cells" : Str), Mk.Lcells.d), (("_law_labels" : Str), Mk.Llabels.d), (("_law_right" : Str), K67.Lright.d), (("law" : Str), Mk.P_law.d), (("Chain.many!" : Str), Mk.P_Chain_many_l.d)]
def cl : List (Str × T) := []
def ci_Chain (C : Addr) : ClsI := ⟨C, ["own_labels", "own_ahead", "own_heights", "own_edges"]⟩
def cs (C_Chain : Addr) : Cons := fun x => if x = "Chain" then some (.cl (ci_Chain C_Chain)) else cl.lookup x
end K67
set_option maxHeartbeats 4000000
namespace K67
open PySem L2 Mk
def top (i : Nat) : Stmt := PySem.Challenge.pw_makeroom_k67_whole_greater_and_smaller_s.main.body.getD i (.Pass ⟨0, 0, 0, 0⟩)
def bl : List Str := ["abs", "all", "enumerate", "int", "isinstance", "len", "list", "max", "min", "range", "sorted", "sum", "tuple", "zip"]
def C_Chain : ClI := ⟨"Chain", ["own_labels", "own_ahead", "own_heights", "own_edges"]⟩
def I0 : FnI := ⟨"sizes_ahead", ["row"], []⟩
def I1 : FnI := ⟨"is_full", ["space", "row"], []⟩
def I2 : FnI := ⟨"tupled", ["thing"], []⟩
def I3 : FnI := ⟨"look_room", ["space", "row"], []⟩
def I4 : MtI := ⟨"Chain.__init__", "Chain", "__init__", ["self", "space", "row"]⟩
def I5 : MtI := ⟨"Chain.many", "Chain", "many", ["self"]⟩
def I6 : MtI := ⟨"Chain.weight", "Chain", "weight", ["self", "at"]⟩
def I7 : MtI := ⟨"Chain.slope", "Chain", "slope", ["self", "first", "height"]⟩
def I8 : MtI := ⟨"Chain.first_above", "Chain", "first_above", ["self", "height", "is_low"]⟩
def I9 : MtI := ⟨"Chain.heights", "Chain", "heights", ["self", "is_low"]⟩
def I10 : MtI := ⟨"Chain.placing", "Chain", "placing", ["self", "is_low"]⟩
def I11 : MtI := ⟨"Chain.pushed", "Chain", "pushed", ["self", "at", "height"]⟩
def I12 : FnI := ⟨"cost", ["row", "placing"], []⟩
def I13 : FnI := ⟨"lowest", ["space", "row"], []⟩
def I14 : FnI := ⟨"least_sum", ["space", "row"], []⟩
def I15 : FnI := ⟨"_law_box", ["_law_script", "_law_k"], []⟩
def I16 : FnI := ⟨"_law_take", ["_law_box_here", "_law_below"], []⟩
def I17 : FnI := ⟨"_law_cells", ["_law_script", "_law_most"], []⟩
def I18 : FnI := ⟨"_law_labels", ["_law_box_here", "_law_many", "_law_wide"], []⟩
def I19 : FnI := ⟨"_law_right", ["_law_box_here"], []⟩
def I20 : FnI := ⟨"law", ["_law_script"], []⟩
def I21 : MtI := ⟨"Chain.many!", "Chain", "many", ["self"]⟩
def Z : Zs := { N := [], bl := bl, consts := [], fns := [I0, I1, I2, I3, I12, I13, I14, I15, I16, I17, I18, I19, I20], cls := [C_Chain], mts := [I4, I5, I6, I7, I8, I9, I10, I11, I21] }
theorem chk0 : chkS { Z with N := Mk.P_sizes_ahead.N } (defScope (top 2)) (fun _ => true) Mk.P_sizes_ahead.d.body (defBody (top 2)) = true := by decide +kernel
theorem sc0 : FnScope Mk.P_sizes_ahead.N I0.ps (defScope (top 2)) := ⟨by decide +kernel, by decide +kernel, by decide +kernel, by decide +kernel, by decide +kernel, by decide +kernel, by decide +kernel⟩
theorem chk1 : chkS { Z with N := Mk.P_is_full.N } (defScope (top 3)) (fun _ => true) Mk.P_is_full.d.body (defBody (top 3)) = true := by decide +kernel
theorem sc1 : FnScope Mk.P_is_full.N I1.ps (defScope (top 3)) := ⟨by decide +kernel, by decide +kernel, by decide +kernel, by decide +kernel, by decide +kernel, by decide +kernel, by decide +kernel⟩
theorem chk2 : chkS { Z with N := Mk.P_tupled.N } (defScope (top 7)) (fun _ => true) Mk.P_tupled.d.body (defBody (top 7)) = true := by decide +kernel
theorem sc2 : FnScope Mk.P_tupled.N I2.ps (defScope (top 7)) := ⟨by decide +kernel, by decide +kernel, by decide +kernel, by decide +kernel, by decide +kernel, by decide +kernel, by decide +kernel⟩
theorem chk3 : chkS { Z with N := Mk.P_look_room.N } (defScope (top 9)) (fun _ => true) Mk.P_look_room.d.body (defBody (top 9)) = true := by decide +kernel
theorem sc3 : FnScope Mk.P_look_room.N I3.ps (defScope (top 9)) := ⟨by decide +kernel, by decide +kernel, by decide +kernel, by decide +kernel, by decide +kernel, by decide +kernel, by decide +kernel⟩
theorem chk4 : chkS { Z with N := Mk.P_Chain_init.N } (defScope (inClass (top 10) 0)) (fun _ => true) Mk.P_Chain_init.d.body (defBody (inClass (top 10) 0)) = true := by decide +kernel
theorem sc4 : FnScope Mk.P_Chain_init.N I4.ps (defScope (inClass (top 10) 0)) := ⟨by decide +kernel, by decide +kernel, by decide +kernel, by decide +kernel, by decide +kernel, by decide +kernel, by decide +kernel⟩
theorem chk5 : chkS { Z with N := Mk.P_Chain_many.N } (defScope (inClass (top 10) 1)) (fun _ => true) Mk.P_Chain_many.d.body (defBody (inClass (top 10) 1)) = true := by decide +kernel
theorem sc5 : FnScope Mk.P_Chain_many.N I5.ps (defScope (inClass (top 10) 1)) := ⟨by decide +kernel, by decide +kernel, by decide +kernel, by decide +kernel, by decide +kernel, by decide +kernel, by decide +kernel⟩
theorem chk6 : chkS { Z with N := Mk.P_Chain_weight.N } (defScope (inClass (top 10) 2)) (fun _ => true) Mk.P_Chain_weight.d.body (defBody (inClass (top 10) 2)) = true := by decide +kernel
theorem sc6 : FnScope Mk.P_Chain_weight.N I6.ps (defScope (inClass (top 10) 2)) := ⟨by decide +kernel, by decide +kernel, by decide +kernel, by decide +kernel, by decide +kernel, by decide +kernel, by decide +kernel⟩
theorem chk7 : chkS { Z with N := Mk.P_Chain_slope.N } (defScope (inClass (top 10) 3)) (fun _ => true) Mk.P_Chain_slope.d.body (defBody (inClass (top 10) 3)) = true := by decide +kernel
theorem sc7 : FnScope Mk.P_Chain_slope.N I7.ps (defScope (inClass (top 10) 3)) := ⟨by decide +kernel, by decide +kernel, by decide +kernel, by decide +kernel, by decide +kernel, by decide +kernel, by decide +kernel⟩
theorem chk8 : chkS { Z with N := Mk.P_Chain_first_above.N } (defScope (inClass (top 10) 4)) (fun _ => true) Mk.P_Chain_first_above.d.body (defBody (inClass (top 10) 4)) = true := by decide +kernel
theorem sc8 : FnScope Mk.P_Chain_first_above.N I8.ps (defScope (inClass (top 10) 4)) := ⟨by decide +kernel, by decide +kernel, by decide +kernel, by decide +kernel, by decide +kernel, by decide +kernel, by decide +kernel⟩
theorem chk9 : chkS { Z with N := Mk.P_Chain_heights.N } (defScope (inClass (top 10) 5)) (fun _ => true) Mk.P_Chain_heights.d.body (defBody (inClass (top 10) 5)) = true := by decide +kernel
theorem sc9 : FnScope Mk.P_Chain_heights.N I9.ps (defScope (inClass (top 10) 5)) := ⟨by decide +kernel, by decide +kernel, by decide +kernel, by decide +kernel, by decide +kernel, by decide +kernel, by decide +kernel⟩
theorem chk10 : chkS { Z with N := Mk.P_Chain_placing.N } (defScope (inClass (top 10) 6)) (fun _ => true) Mk.P_Chain_placing.d.body (defBody (inClass (top 10) 6)) = true := by decide +kernel
theorem sc10 : FnScope Mk.P_Chain_placing.N I10.ps (defScope (inClass (top 10) 6)) := ⟨by decide +kernel, by decide +kernel, by decide +kernel, by decide +kernel, by decide +kernel, by decide +kernel, by decide +kernel⟩
theorem chk11 : chkS { Z with N := Mk.P_Chain_pushed.N } (defScope (inClass (top 10) 7)) (fun _ => true) Mk.P_Chain_pushed.d.body (defBody (inClass (top 10) 7)) = true := by decide +kernel
theorem sc11 : FnScope Mk.P_Chain_pushed.N I11.ps (defScope (inClass (top 10) 7)) := ⟨by decide +kernel, by decide +kernel, by decide +kernel, by decide +kernel, by decide +kernel, by decide +kernel, by decide +kernel⟩
theorem chk12 : chkS { Z with N := Mk.P_cost.N } (defScope (top 11)) (fun _ => true) Mk.P_cost.d.body (defBody (top 11)) = true := by decide +kernel
theorem sc12 : FnScope Mk.P_cost.N I12.ps (defScope (top 11)) := ⟨by decide +kernel, by decide +kernel, by decide +kernel, by decide +kernel, by decide +kernel, by decide +kernel, by decide +kernel⟩
theorem chk13 : chkS { Z with N := Mk.P_lowest_2.N } (defScope (top 12)) (fun _ => true) Mk.P_lowest_2.d.body (defBody (top 12)) = true := by decide +kernel
theorem sc13 : FnScope Mk.P_lowest_2.N I13.ps (defScope (top 12)) := ⟨by decide +kernel, by decide +kernel, by decide +kernel, by decide +kernel, by decide +kernel, by decide +kernel, by decide +kernel⟩
theorem chk14 : chkS { Z with N := Mk.P_least_sum.N } (defScope (top 13)) (fun _ => true) Mk.P_least_sum.d.body (defBody (top 13)) = true := by decide +kernel
theorem sc14 : FnScope Mk.P_least_sum.N I14.ps (defScope (top 13)) := ⟨by decide +kernel, by decide +kernel, by decide +kernel, by decide +kernel, by decide +kernel, by decide +kernel, by decide +kernel⟩
theorem chk15 : chkS { Z with N := Mk.Lbox.N } (defScope (top 15)) (fun _ => true) Mk.Lbox.d.body (defBody (top 15)) = true := by decide +kernel
theorem sc15 : FnScope Mk.Lbox.N I15.ps (defScope (top 15)) := ⟨by decide +kernel, by decide +kernel, by decide +kernel, by decide +kernel, by decide +kernel, by decide +kernel, by decide +kernel⟩
theorem chk16 : chkS { Z with N := Mk.Ltake.N } (defScope (top 16)) (fun _ => true) Mk.Ltake.d.body (defBody (top 16)) = true := by decide +kernel
theorem sc16 : FnScope Mk.Ltake.N I16.ps (defScope (top 16)) := ⟨by decide +kernel, by decide +kernel, by decide +kernel, by decide +kernel, by decide +kernel, by decide +kernel, by decide +kernel⟩
theorem chk17 : chkS { Z with N := Mk.Lcells.N } (defScope (top 17)) (fun _ => true) Mk.Lcells.d.body (defBody (top 17)) = true := by decide +kernel
theorem sc17 : FnScope Mk.Lcells.N I17.ps (defScope (top 17)) := ⟨by decide +kernel, by decide +kernel, by decide +kernel, by decide +kernel, by decide +kernel, by decide +kernel, by decide +kernel⟩
theorem chk18 : chkS { Z with N := Mk.Llabels.N } (defScope (top 18)) (fun _ => true) Mk.Llabels.d.body (defBody (top 18)) = true := by decide +kernel
theorem sc18 : FnScope Mk.Llabels.N I18.ps (defScope (top 18)) := ⟨by decide +kernel, by decide +kernel, by decide +kernel, by decide +kernel, by decide +kernel, by decide +kernel, by decide +kernel⟩
theorem chk19 : chkS { Z with N := K67.Lright.N } (defScope (top 19)) (fun _ => true) K67.Lright.d.body (defBody (top 19)) = true := by decide +kernel
theorem sc19 : FnScope K67.Lright.N I19.ps (defScope (top 19)) := ⟨by decide +kernel, by decide +kernel, by decide +kernel, by decide +kernel, by decide +kernel, by decide +kernel, by decide +kernel⟩
theorem chk20 : chkS { Z with N := Mk.P_law.N } (defScope (top 20)) (fun _ => true) Mk.P_law.d.body (defBody (top 20)) = true := by decide +kernel
theorem sc20 : FnScope Mk.P_law.N I20.ps (defScope (top 20)) := ⟨by decide +kernel, by decide +kernel, by decide +kernel, by decide +kernel, by decide +kernel, by decide +kernel, by decide +kernel⟩
theorem chk21 : chkS { Z with N := Mk.P_Chain_many_l.N } (defScope (inClass (top 10) 1)) (fun _ => true) Mk.P_Chain_many_l.d.body (defBody (inClass (top 10) 1)) = true := by decide +kernel
theorem sc21 : FnScope Mk.P_Chain_many_l.N I21.ps (defScope (inClass (top 10) 1)) := ⟨by decide +kernel, by decide +kernel, by decide +kernel, by decide +kernel, by decide +kernel, by decide +kernel, by decide +kernel⟩
end K67
set_option maxHeartbeats 4000000
/-! sums of rows a little otherwise -/
namespace K67
open PySem L2 Mk Cm
theorem sumN_split (f : Nat → Int) (a : Nat) : ∀ b, sumN (a + b) f = sumN a f + sumN b fun j => f (a + j)
  | 0 => by show sumN a f = sumN a f + 0; omega
  | b + 1 => by
    show sumN (a + b) f + f (a + b) = sumN a f + (sumN b (fun j => f (a + j)) + f (a + b))
    rw [sumN_split f a b]
    omega
theorem absI_1 (x y : Int) : absI (x + 1 - y) ≤ absI (x - y) + 1 := by unfold absI; split <;> split <;> omega
theorem absI_2 (x y : Int) : absI (x - 1 - y) ≤ absI (x - y) + 1 := by unfold absI; split <;> split <;> omega
def wid (row : List Lab) (k : Nat) : List Lab := row.set k ⟨((row[k]?).map (·.n)).getD "", wi row k, sz row k + 1, wtA row k⟩
theorem wid_len (row : List Lab) (k : Nat) : (wid row k).length = row.length := by simp [wid]
theorem wid_wt (row : List Lab) {k : Nat} (hk : k < row.length) : wtA (wid row k) = wtA row := by
  funext i
  unfold wid
  by_cases h : i = k
  · subst h
    unfold wtA
    simp [hk]
  · unfold wtA
    rw [List.getElem?_set_ne (Ne.symm h)]
theorem wid_wi (row : List Lab) {k : Nat} (hk : k < row.length) : wi (wid row k) = wi row := by
  funext i
  unfold wid
  by_cases h : i = k
  · subst h
    unfold wi
    simp [hk]
  · unfold wi
    rw [List.getElem?_set_ne (Ne.symm h)]
theorem wid_sz (row : List Lab) {k : Nat} (hk : k < row.length) (i : Nat) : sz (wid row k) i = sz row i + if i = k then 1 else 0 := by
  unfold wid
  by_cases h : i = k
  · subst h
    rw [if_pos rfl]
    unfold sz
    simp [hk]
  · rw [if_neg h]
    unfold sz
    rw [List.getElem?_set_ne (Ne.symm h)]
    omega
theorem wid_ok {row : List Lab} {k : Nat} (hk : k < row.length) (h : WtS row) : WtS (wid row k) := fun l hl => by
  rcases List.mem_or_eq_of_mem_set hl with e | e
  · exact h l e
  · subst e
    have := h row[k] (List.getElem_mem hk)
    show 1 ≤ wtA row k ∧ wtA row k ≤ 1000000
    rw [wtA_at hk]
    exact this
theorem wid_cost {row : List Lab} {k : Nat} (hk : k < row.length) (p : Nat → Int) : costP (wid row k) p = costP row p := by
  unfold costP
  rw [wid_wt row hk, wid_wi row hk, wid_len]
theorem wider_ge {row : List Lab} {k : Nat} (hk : k < row.length) (hw : WtS row) : leastS none row ≤ leastS none (wid row k) := by
  have q := end_plc (sp := none) (row := wid row k) true (by rw [wid_len]; omega) (wid_ok hk hw) rfl
  rw [least_P none (wid row k), wid_cost hk]
  refine least_le_cost (by omega) hw rfl ⟨fun i hi => ?_, fun q h => by cases h⟩
  have := q.1 i (by rw [wid_len]; exact hi)
  rw [wid_sz row hk] at this
  split at this <;> omega
theorem wt_pos {row : List Lab} (hw : WtS row) {i : Nat} (hi : i < row.length) : 1 ≤ wtA row i := by
  rw [wtA_at hi]; exact (hw _ (List.getElem_mem hi)).1
theorem wider_le1 {row : List Lab} {k : Nat} (hk : k < row.length) (hw : WtS row) : leastS none (wid row k) ≤ leastS none row + sumN row.length fun i => if k + 1 ≤ i then wtA row i else 0 := by
  have q := end_plc (sp := none) (row := row) true (by omega) hw rfl
  obtain ⟨p, hp⟩ : ∃ p, p = plF true none row := ⟨_, rfl⟩
  rw [← hp] at q
  have l := least_le_cost (sp := none) (row := wid row k) (by rw [wid_len]; omega) (wid_ok hk hw) rfl (p := fun i => if k + 1 ≤ i then p i + 1 else p i) ⟨fun i hi => by
    rw [wid_len] at hi
    have := q.1 i hi
    rw [wid_sz row hk]
    show (if k + 1 ≤ i then p i + 1 else p i) + (sz row i + if i = k then 1 else 0) ≤ if k + 1 ≤ i + 1 then p (i + 1) + 1 else p (i + 1)
    repeat' split
    all_goals omega, fun q h => by cases h⟩
  rw [wid_cost hk] at l
  refine Int.le_trans l ?_
  rw [least_P, ← hp]
  unfold costP
  rw [← sumN_add]
  refine sumN_le fun i hi => ?_
  have w := wt_pos hw hi
  show wtA row i * absI ((if k + 1 ≤ i then p i + 1 else p i) - wi row i) ≤ _
  split
  · have := Int.mul_le_mul_of_nonneg_left (absI_1 (p i) (wi row i)) (show 0 ≤ wtA row i by omega)
    rw [Int.mul_add, Int.mul_one] at this
    exact this
  · omega
theorem wider_le2 {row : List Lab} {k : Nat} (hk : k < row.length) (hw : WtS row) : leastS none (wid row k) ≤ leastS none row + sumN row.length fun i => if i ≤ k then wtA row i else 0 := by
  have q := end_plc (sp := none) (row := row) true (by omega) hw rfl
  obtain ⟨p, hp⟩ : ∃ p, p = plF true none row := ⟨_, rfl⟩
  rw [← hp] at q
  have l := least_le_cost (sp := none) (row := wid row k) (by rw [wid_len]; omega) (wid_ok hk hw) rfl (p := fun i => if i ≤ k then p i - 1 else p i) ⟨fun i hi => by
    rw [wid_len] at hi
    have := q.1 i hi
    rw [wid_sz row hk]
    show (if i ≤ k then p i - 1 else p i) + (sz row i + if i = k then 1 else 0) ≤ if i + 1 ≤ k then p (i + 1) - 1 else p (i + 1)
    repeat' split
    all_goals omega, fun q h => by cases h⟩
  rw [wid_cost hk] at l
  refine Int.le_trans l ?_
  rw [least_P, ← hp]
  unfold costP
  rw [← sumN_add]
  refine sumN_le fun i hi => ?_
  have w := wt_pos hw hi
  show wtA row i * absI ((if i ≤ k then p i - 1 else p i) - wi row i) ≤ _
  split
  · have := Int.mul_le_mul_of_nonneg_left (absI_2 (p i) (wi row i)) (show 0 ≤ wtA row i by omega)
    rw [Int.mul_add, Int.mul_one] at this
    exact this
  · omega
theorem sum_map_wt (row : List Lab) : (row.map (·.t)).sum = sumN row.length (wtA row) := by
  rw [← sum_range]
  congr 1
  apply List.ext_getElem
  · simp
  · intro i h1 h2
    simp at h1
    simp [wtA_at h1]
theorem sum_drop (row : List Lab) {m : Nat} (hm : m ≤ row.length) : ((row.drop m).map (·.t)).sum = sumN row.length fun i => if m ≤ i then wtA row i else 0 := by
  rw [sumN_tail _ _ _ hm, sum_map_wt, List.length_drop]
  exact sumN_congr fun i _ => by unfold wtA; rw [List.getElem?_drop]
theorem sum_take (row : List Lab) {m : Nat} (hm : m < row.length) : ((row.take (m + 1)).map (·.t)).sum = sumN row.length fun i => if i ≤ m then wtA row i else 0 := by
  obtain ⟨b, hb⟩ : ∃ b, row.length = (m + 1) + b := ⟨row.length - (m + 1), by omega⟩
  rw [sum_map_wt, List.length_take, Nat.min_eq_left (by omega), hb, sumN_split (fun i => if i ≤ m then wtA row i else 0) (m + 1) b, (sumN_congr (n := b) (g := fun _ => 0) fun j _ => by rw [if_neg (by omega)]), sumN_zero, Int.add_zero]
  exact sumN_congr fun i hi => by
    rw [if_pos (by omega)]
    unfold wtA
    rw [List.getElem?_take_of_lt hi]
/-- one label made two -/
def part (row : List Lab) (k : Nat) (c q : Int) : List Lab := row.take k ++ [⟨((row[k]?).map (·.n)).getD "", wi row k, c, q⟩, ⟨"zz", wi row k + c, sz row k - c, wtA row k - q⟩] ++ row.drop (k + 1)
theorem part_len {row : List Lab} {k : Nat} {c q : Int} (hk : k < row.length) : (part row k c q).length = row.length + 1 := by
  simp [part]; omega
theorem part_at {row : List Lab} {k : Nat} {c q : Int} (hk : k < row.length) (i : Nat) : (part row k c q)[i]? = if i < k then row[i]? else if i = k then some ⟨((row[k]?).map (·.n)).getD "", wi row k, c, q⟩ else if i = k + 1 then some ⟨"zz", wi row k + c, sz row k - c, wtA row k - q⟩ else row[i - 1]? := by
  unfold part
  rw [List.append_assoc, List.getElem?_append]
  have e : (row.take k).length = k := by rw [List.length_take]; omega
  rw [e]
  by_cases h1 : i < k
  · rw [if_pos h1, if_pos h1, List.getElem?_take_of_lt h1]
  · rw [if_neg h1, if_neg h1]
    by_cases h2 : i = k
    · subst h2; simp
    · rw [if_neg h2]
      by_cases h3 : i = k + 1
      · subst h3; simp
      · rw [if_neg h3]
        obtain ⟨j, rfl⟩ : ∃ j, i = k + 2 + j := ⟨i - (k + 2), by omega⟩
        rw [show k + 2 + j - k = j + 2 by omega]
        simp
theorem part_ok {row : List Lab} {k : Nat} {c q : Int} (hk : k < row.length) (hw : WtS row) (hq : 1 ≤ q) (hq2 : q < wtA row k) : WtS (part row k c q) := fun l hl => by
  have w := hw _ (List.getElem_mem hk)
  rw [← wtA_at hk] at w
  unfold part at hl
  simp only [List.mem_append, List.mem_cons, List.not_mem_nil, or_false] at hl
  rcases hl with (h | h | h) | h
  · exact hw l (List.mem_of_mem_take h)
  · subst h; show 1 ≤ q ∧ q ≤ 1000000; omega
  · subst h; show 1 ≤ wtA row k - q ∧ wtA row k - q ≤ 1000000; omega
  · exact hw l (List.mem_of_mem_drop h)
theorem parted_le {row : List Lab} {k : Nat} {c q : Int} (hk : k < row.length) (hw : WtS row) (hq : 1 ≤ q) (hq2 : q < wtA row k) : leastS none (part row k c q) ≤ leastS none row := by
  have pl := end_plc (sp := none) (row := row) true (by omega) hw rfl
  obtain ⟨p, hp⟩ : ∃ p, p = plF true none row := ⟨_, rfl⟩
  rw [← hp] at pl
  obtain ⟨r, hr⟩ : ∃ r : Nat → Int, r = fun i => if i ≤ k then p i else if i = k + 1 then p k + c else p (i - 1) := ⟨_, rfl⟩
  have hsz : ∀ i, sz (part row k c q) i = if i < k then sz row i else if i = k then c else if i = k + 1 then sz row k - c else sz row (i - 1) := fun i => by
    unfold sz
    rw [part_at hk]
    by_cases h1 : i < k
    · simp only [h1, if_true]
    · by_cases h2 : i = k
      · subst h2; simp
      · by_cases h3 : i = k + 1
        · subst h3; simp [sz, show ¬ k + 1 < k by omega]
        · simp only [h1, h2, h3, if_false]
  have l := least_le_cost (sp := none) (row := part row k c q) (p := r) (by rw [part_len hk]; omega) (part_ok hk hw hq hq2) rfl ⟨fun i hi => by
    rw [part_len hk] at hi
    rw [hsz, hr]
    show (if i ≤ k then p i else if i = k + 1 then p k + c else p (i - 1)) + _ ≤ (if i + 1 ≤ k then p (i + 1) else if i + 1 = k + 1 then p k + c else p (i + 1 - 1))
    by_cases h1 : i < k
    · have := pl.1 i (by omega)
      rw [if_pos (by omega), if_pos h1, if_pos (by omega)]
      exact this
    · by_cases h2 : i = k
      · subst h2
        rw [if_pos (by omega), if_neg (by omega), if_pos rfl, if_neg (by omega), if_pos rfl]
        omega
      · by_cases h3 : i = k + 1
        · subst h3
          have := pl.1 k (by omega)
          rw [if_neg (by omega), if_pos rfl, if_neg (by omega), if_neg (by omega), if_pos rfl, if_neg (by omega), if_neg (by omega)]
          rw [show k + 1 + 1 - 1 = k + 1 by omega]
          omega
        · have := pl.1 (i - 1) (by omega)
          rw [if_neg (by omega), if_neg h3, if_neg h1, if_neg h2, if_neg h3, if_neg (by omega), if_neg (by omega)]
          rw [show i + 1 - 1 = i - 1 + 1 by omega]
          exact this, fun q h => by cases h⟩
  refine Int.le_trans l ?_
  rw [least_P, ← hp]
  unfold costP
  rw [part_len hk]
  obtain ⟨b, hb⟩ : ∃ b, row.length = k + (1 + b) := ⟨row.length - (k + 1), by omega⟩
  rw [show row.length + 1 = k + (2 + b) by omega, hb, sumN_split _ k (2 + b), sumN_split _ 2 b, sumN_split _ k (1 + b), sumN_split _ 1 b]
  have a1 : sumN k (fun i => wtA (part row k c q) i * absI (r i - wi (part row k c q) i)) = sumN k fun i => wtA row i * absI (p i - wi row i) := sumN_congr fun i hi => by
    unfold wtA wi
    rw [part_at hk, if_pos hi, hr]
    show _ * absI ((if i ≤ k then p i else _) - _) = _
    rw [if_pos (by omega)]
  have a3 : sumN b (fun j => wtA (part row k c q) (k + (2 + j)) * absI (r (k + (2 + j)) - wi (part row k c q) (k + (2 + j)))) = sumN b fun j => wtA row (k + (1 + j)) * absI (p (k + (1 + j)) - wi row (k + (1 + j))) := sumN_congr fun j hj => by
    unfold wtA wi
    rw [part_at hk, if_neg (by omega), if_neg (by omega), if_neg (by omega), hr]
    show _ * absI ((if k + (2 + j) ≤ k then p (k + (2 + j)) else if k + (2 + j) = k + 1 then p k + c else p (k + (2 + j) - 1)) - _) = _
    rw [if_neg (by omega), if_neg (by omega), show k + (2 + j) - 1 = k + (1 + j) by omega]
  have e0 : wtA (part row k c q) (k + 0) = q ∧ wi (part row k c q) (k + 0) = wi row k ∧ r (k + 0) = p k := by
    unfold wtA
    refine ⟨?_, ?_, by rw [hr]; simp⟩
    · rw [part_at hk]; simp
    · conv => lhs; unfold wi
      rw [part_at hk]; simp
  have e1 : wtA (part row k c q) (k + 1) = wtA row k - q ∧ wi (part row k c q) (k + 1) = wi row k + c ∧ r (k + 1) = p k + c := by
    have nk : ¬ k + 1 < k := by omega
    refine ⟨?_, ?_, by rw [hr]; show (if k + 1 ≤ k then _ else if k + 1 = k + 1 then _ else _) = _; rw [if_neg (by omega), if_pos rfl]⟩
    · conv => lhs; unfold wtA
      rw [part_at hk]; simp [nk]
    · conv => lhs; unfold wi
      rw [part_at hk]; simp [nk]
  have a2 : sumN 2 (fun j => wtA (part row k c q) (k + j) * absI (r (k + j) - wi (part row k c q) (k + j))) = sumN 1 fun j => wtA row (k + j) * absI (p (k + j) - wi row (k + j)) := by
    show 0 + wtA (part row k c q) (k + 0) * absI (r (k + 0) - wi (part row k c q) (k + 0)) + wtA (part row k c q) (k + 1) * absI (r (k + 1) - wi (part row k c q) (k + 1)) = 0 + wtA row (k + 0) * absI (p (k + 0) - wi row (k + 0))
    rw [e0.1, e0.2.1, e0.2.2, e1.1, e1.2.1, e1.2.2, show p k + c - (wi row k + c) = p k - wi row k by omega, Nat.add_zero, Int.sub_mul]
    omega
  rw [a1, a2, a3]
  exact Int.le_refl _
end K67
set_option maxHeartbeats 4000000
namespace K67
open PySem L2 Mk Cm
section
variable {fns : Tab} {cs : Cons}
structure Calls (fns : Tab) : Prop where
  take : Has "_law_take" TakeOk fns
  labels : Has "_law_labels" LabelsOk fns
  least : LSumOk fns
theorem wts_of {w : Int} {row : List Lab} (h : RowOk w row) : WtS row := fun l hl => by
  obtain ⟨_, _, _, _, _, a, b⟩ := h.1 l hl
  omega
theorem min_ite (a b : Int) : (if b < a then b else a) ≤ a ∧ (if b < a then b else a) ≤ b := by split <;> omega
theorem turn {G : Gc} (C : Calls G.fns) (hp : G.pin = [0]) {x : Box} {n : Nat} (h : x.ok (n + 40)) (i : Int) (v8 v9 v10 : Option M) :
    ∃ (y : Box) (w8 w9 w10 : Option M), ex G Lright.s0bB [some x.m, some (Mk.mt (.int i)), none, none, none, none, none, none, v8, v9, v10, none] = some (.next, [some y.m, none, none, none, none, none, none, none, w8, w9, w10, none]) ∧ y.ok n := by
  obtain ⟨Ft, ht, Ht⟩ := C.take
  obtain ⟨Fl, hl, Hl⟩ := C.labels
  have m1 := Ht.mu
  have m2 := Hl.mu
  obtain ⟨a, x1, e1, a0, a1, o1⟩ := Ht.sem (n := n + 39) (k := 8) h (by omega) (by omega)
  obtain ⟨c, rfl⟩ := Int.eq_ofNat_of_zero_le a0
  obtain ⟨row, x2, e2, o2, hlen, hrow⟩ := Hl.sem (x := x1) (n := n + 6) (m := 1 + c) (w := 20) (o1.mono (by omega)) (by omega) (by decide) (by decide)
  have e2 : Fl.sem [x1.m, Mk.mt (.int (1 + (c : Int))), Mk.mt (.int 20)] = some (Mk.mt (rowT false row), [some x2.m, some (Mk.mt (.int (1 + (c : Int)))), some (Mk.mt (.int 20))]) := by simpa using e2
  obtain ⟨kv, x3, e3, k0, k1, o3⟩ := Ht.sem (x := x2) (n := n + 5) (k := (row.length : Int)) o2 (by omega) (by omega)
  obtain ⟨k, rfl⟩ := Int.eq_ofNat_of_zero_le k0
  have hk : k < row.length := by omega
  have hw := wts_of hrow
  have r64 : row.length < 64 := by omega
  have l0 := C.least false false none row (by omega) r64 hw rfl
  rw [spT_none] at l0
  obtain ⟨L, hL⟩ : ∃ L, L = leastS none row := ⟨_, rfl⟩
  rw [← hL] at l0
  obtain ⟨one, hone⟩ : ∃ one, one = row[k] := ⟨_, rfl⟩
  have ix : atI (row.map (Lab.m false)) (k : Int) = some (one.m false) := by rw [atI_nat (by simpa using hk)]; simp [hone]
  obtain ⟨R, hR⟩ : ∃ R, R = rowT false row := ⟨_, rfl⟩
  have hR2 : R = .tup (row.map (Lab.m false)) := hR
  rw [← hR] at e2 l0
  have s0 : ex G Lright.s0bs0 [some x.m, some (Mk.mt (.int i)), none, none, none, none, none, none, v8, v9, v10, none] = some (.next, [some x2.m, some (Mk.mt (.int i)), some (Mk.mt R), none, none, none, none, none, v8, v9, v10, none]) := by
    simp [hp, ht, hl, m1, m2, e1, e2]
  have s1 : ex G Lright.s0bs1 [some x2.m, some (Mk.mt (.int i)), some (Mk.mt R), none, none, none, none, none, v8, v9, v10, none] = some (.next, [some x3.m, some (Mk.mt (.int i)), some (Mk.mt R), none, none, none, some (Mk.mt (.int k)), some (Mk.mt (.int L)), v8, v9, v10, none]) := by
    have lenR : primSem .len [R] = some (Mk.mt (.int row.length)) := by rw [hR2]; simp
    simp [hp, ht, m1, e3, l0, setMs, setM, lenR]
  have s2 : ex G Lright.s0bs2 [some x3.m, some (Mk.mt (.int i)), some (Mk.mt R), none, none, none, some (Mk.mt (.int k)), some (Mk.mt (.int L)), v8, v9, v10, none] = some (.next, [some x3.m, some (Mk.mt (.int i)), some (Mk.mt R), some (Mk.mt (one.m false)), none, none, some (Mk.mt (.int k)), some (Mk.mt (.int L)), v8, v9, v10, none]) := by
    simp [hp, hR2, ix]
  have cA : cutT (row.map (Lab.m false)) none (some (k : Int)) = (row.take k).map (Lab.m false) := by rw [cut_to, List.map_take]
  have cA1 : cutT (row.map (Lab.m false)) none (some ((k : Int) + 1)) = (row.take (k + 1)).map (Lab.m false) := by rw [show (k : Int) + 1 = ((k + 1 : Nat) : Int) from rfl, cut_to, List.map_take]
  have cB : cutT (row.map (Lab.m false)) (some ((k : Int) + 1)) none = (row.drop (k + 1)).map (Lab.m false) := by rw [show (k : Int) + 1 = ((k + 1 : Nat) : Int) from rfl, cut_from, List.map_drop]
  obtain ⟨A, hA⟩ : ∃ A, A = row.take k := ⟨_, rfl⟩
  obtain ⟨B, hB⟩ : ∃ B, B = row.drop (k + 1) := ⟨_, rfl⟩
  obtain ⟨A1, hA1⟩ : ∃ A1, A1 = row.take (k + 1) := ⟨_, rfl⟩
  rw [← hA] at cA
  rw [← hB] at cB
  rw [← hA1] at cA1
  have lA : A.length = k := by rw [hA, List.length_take]; omega
  have lB : B.length = row.length - (k + 1) := by rw [hB, List.length_drop]
  have one_w : wi row k = one.w := by rw [wi_at hk, hone]
  have one_t : wtA row k = one.t := by rw [wtA_at hk, hone]
  have one_s : sz row k = one.s := by rw [sz_at hk, hone]
  have one_n : ((row[k]?).map (·.n)).getD ("" : Str) = one.n := by simp [hk, hone]
  have eW : wid row k = A ++ [⟨one.n, one.w, one.s + 1, one.t⟩] ++ B := by
    unfold wid
    rw [List.set_eq_take_append_cons_drop, if_pos hk, one_w, one_t, one_s, one_n, hA, hB]
    simp
  obtain ⟨W, hW⟩ : ∃ W, W = rowT false (wid row k) := ⟨_, rfl⟩
  have hW2 : W = .tup (A.map (Lab.m false) ++ ([T.tup [.str one.n, .int one.w, .int (one.s + 1), .int one.t]] ++ B.map (Lab.m false))) := by
    rw [hW, eW]
    simp [rowT, Lab.m]
  have s3 : ex G Lright.s0bs3 [some x3.m, some (Mk.mt (.int i)), some (Mk.mt R), some (Mk.mt (one.m false)), none, none, some (Mk.mt (.int k)), some (Mk.mt (.int L)), v8, v9, v10, none] = some (.next, [some x3.m, some (Mk.mt (.int i)), some (Mk.mt R), some (Mk.mt (one.m false)), some (Mk.mt W), none, some (Mk.mt (.int k)), some (Mk.mt (.int L)), v8, v9, v10, none]) := by
    have c2 : cutT [T.str one.n, T.int one.w, T.int one.s, T.int one.t] none (some 2) = [.str one.n, .int one.w] := rfl
    simp [hp, hR2, hW2, cA, cB, Lab.m, c2, ps_addzt, Op.vs, E.vs, ownedAt]
    rw [szO_ok (by first | omega | (simp; omega)), szO_ok (by first | omega | (simp; omega)), szO_ok (by first | omega | (simp; omega))]
    first | done | simp | rfl
  obtain ⟨M1, hM1⟩ : ∃ M1, M1 = (B.map (·.t)).sum := ⟨_, rfl⟩
  obtain ⟨M2, hM2⟩ : ∃ M2, M2 = (A1.map (·.t)).sum := ⟨_, rfl⟩
  obtain ⟨mo, hmo⟩ : ∃ mo, mo = if M2 < M1 then M2 else M1 := ⟨_, rfl⟩
  have s4 : ex G Lright.s0bs4 [some x3.m, some (Mk.mt (.int i)), some (Mk.mt R), some (Mk.mt (one.m false)), some (Mk.mt W), none, some (Mk.mt (.int k)), some (Mk.mt (.int L)), v8, v9, v10, none] = some (.next, [some x3.m, some (Mk.mt (.int i)), some (Mk.mt R), some (Mk.mt (one.m false)), some (Mk.mt W), some (Mk.mt (.int mo)), some (Mk.mt (.int k)), some (Mk.mt (.int L)), v8, v9, v10, none]) := by
    have p1 := ps_sum (B.map (·.t))
    have p2 := ps_sum (A1.map (·.t))
    simp only [List.map_map, Function.comp_def] at p1 p2
    simp [hp, hR2, cA1, cB, Lab.m, ev_compq, turnV_eq, Op.vs, E.vs, ownedAt, p1, p2, ← hM1, ← hM2, hmo]
  have lW := C.least false false none (wid row k) (by rw [wid_len]; omega) (by rw [wid_len]; exact r64) (wid_ok hk hw) rfl
  rw [spT_none, ← hW] at lW
  have g1 : L ≤ leastS none (wid row k) := by rw [hL]; exact wider_ge hk hw
  have g2 : leastS none (wid row k) ≤ L + mo := by
    have b1 := wider_le1 hk hw
    have b2 := wider_le2 hk hw
    rw [← sum_drop row (by omega), ← hB, ← hM1, ← hL] at b1
    rw [← sum_take row hk, ← hA1, ← hM2, ← hL] at b2
    rw [hmo]
    split <;> omega
  have s5 : ex G Lright.s0bs5 [some x3.m, some (Mk.mt (.int i)), some (Mk.mt R), some (Mk.mt (one.m false)), some (Mk.mt W), some (Mk.mt (.int mo)), some (Mk.mt (.int k)), some (Mk.mt (.int L)), v8, v9, v10, none] = some (.next, [some x3.m, some (Mk.mt (.int i)), some (Mk.mt R), some (Mk.mt (one.m false)), some (Mk.mt W), some (Mk.mt (.int mo)), some (Mk.mt (.int k)), some (Mk.mt (.int L)), v8, v9, v10, none]) := by
    simp [lW, g1, g2]
  have s6 : ∃ (y : Box) (w8 w9 w10 : Option M), ex G Lright.s0bs6 [some x3.m, some (Mk.mt (.int i)), some (Mk.mt R), some (Mk.mt (one.m false)), some (Mk.mt W), some (Mk.mt (.int mo)), some (Mk.mt (.int k)), some (Mk.mt (.int L)), v8, v9, v10, none] = some (.next, [some y.m, some (Mk.mt (.int i)), some (Mk.mt R), some (Mk.mt (one.m false)), some (Mk.mt W), some (Mk.mt (.int mo)), some (Mk.mt (.int k)), some (Mk.mt (.int L)), w8, w9, w10, none]) ∧ y.ok n := by
    have oneok := hrow.1 row[k] (List.getElem_mem hk)
    rw [← hone] at oneok
    obtain ⟨_, _, _, s1', s5', t1', t3'⟩ := oneok
    by_cases c : 1 < one.s ∧ 1 < one.t
    · obtain ⟨c1, c2⟩ := c
      obtain ⟨u, x4, f1, u0, u1, o4⟩ := Ht.sem (x := x3) (n := n + 4) (k := one.s - 1) o3 (by omega) (by omega)
      obtain ⟨v, x5, f2, v0, v1, o5⟩ := Ht.sem (x := x4) (n := n + 3) (k := one.t - 1) o4 (by omega) (by omega)
      obtain ⟨P, hP⟩ : ∃ P, P = part row k (1 + u) (1 + v) := ⟨_, rfl⟩
      obtain ⟨bt, hbt⟩ : ∃ bt : T, bt = .tup [.tup [.str one.n, .int one.w, .int (1 + u), .int (1 + v)], .tup [.str "zz", .int (one.w + (1 + u)), .int (one.s - (1 + u)), .int (one.t - (1 + v))]] := ⟨_, rfl⟩
      have eP : rowT false P = .tup (A.map (Lab.m false) ++ ([T.tup [.str one.n, .int one.w, .int (1 + u), .int (1 + v)], T.tup [.str "zz", .int (one.w + (1 + u)), .int (one.s - (1 + u)), .int (one.t - (1 + v))]] ++ B.map (Lab.m false))) := by
        rw [hP]
        unfold part
        rw [one_n, one_w, one_s, one_t, ← hA, ← hB]
        simp [rowT, Lab.m]
      have lP := C.least false false none P (by rw [hP, part_len hk]; omega) (by rw [hP, part_len hk]; omega) (by rw [hP]; exact part_ok hk hw (by omega) (by rw [one_t]; omega)) rfl
      rw [spT_none] at lP
      have gP : leastS none P ≤ L := by rw [hP, hL]; exact parted_le hk hw (by omega) (by rw [one_t]; omega)
      refine ⟨x5, some (Mk.mt bt), some (Mk.mt (.int (1 + u))), some (Mk.mt (.int (1 + v))), ?_, o5.mono (by omega)⟩
      have t0 : ex G Lright.s0bs6ts0 [some x3.m, some (Mk.mt (.int i)), some (Mk.mt R), some (Mk.mt (one.m false)), some (Mk.mt W), some (Mk.mt (.int mo)), some (Mk.mt (.int k)), some (Mk.mt (.int L)), v8, v9, v10, none] = some (.next, [some x5.m, some (Mk.mt (.int i)), some (Mk.mt R), some (Mk.mt (one.m false)), some (Mk.mt W), some (Mk.mt (.int mo)), some (Mk.mt (.int k)), some (Mk.mt (.int L)), v8, some (Mk.mt (.int (1 + u))), some (Mk.mt (.int (1 + v))), none]) := by
        simp [hp, ht, m1, f1, f2, Lab.m, setMs, setM]
      have t1 : ex G Lright.s0bs6ts1 [some x5.m, some (Mk.mt (.int i)), some (Mk.mt R), some (Mk.mt (one.m false)), some (Mk.mt W), some (Mk.mt (.int mo)), some (Mk.mt (.int k)), some (Mk.mt (.int L)), v8, some (Mk.mt (.int (1 + u))), some (Mk.mt (.int (1 + v))), none] = some (.next, [some x5.m, some (Mk.mt (.int i)), some (Mk.mt R), some (Mk.mt (one.m false)), some (Mk.mt W), some (Mk.mt (.int mo)), some (Mk.mt (.int k)), some (Mk.mt (.int L)), some (Mk.mt bt), some (Mk.mt (.int (1 + u))), some (Mk.mt (.int (1 + v))), none]) := by
        simp [hp, Lab.m, hbt]
      have t2 : ex G Lright.s0bs6ts2 [some x5.m, some (Mk.mt (.int i)), some (Mk.mt R), some (Mk.mt (one.m false)), some (Mk.mt W), some (Mk.mt (.int mo)), some (Mk.mt (.int k)), some (Mk.mt (.int L)), some (Mk.mt bt), some (Mk.mt (.int (1 + u))), some (Mk.mt (.int (1 + v))), none] = some (.next, [some x5.m, some (Mk.mt (.int i)), some (Mk.mt R), some (Mk.mt (one.m false)), some (Mk.mt W), some (Mk.mt (.int mo)), some (Mk.mt (.int k)), some (Mk.mt (.int L)), some (Mk.mt bt), some (Mk.mt (.int (1 + u))), some (Mk.mt (.int (1 + v))), none]) := by
        have ng : ¬ L < leastS none P := by omega
        have q : ev G (.op .add (.cons (.op .add (.cons (.sl (.var 2) .no (.some (.var 6))) (.cons (.var 8) .nil))) (.cons (.sl (.var 2) (.some (.op .add (.cons (.var 6) (.cons (.k (.int 1)) .nil)))) .no) .nil))) [some x5.m, some (Mk.mt (.int i)), some (Mk.mt R), some (Mk.mt (one.m false)), some (Mk.mt W), some (Mk.mt (.int mo)), some (Mk.mt (.int k)), some (Mk.mt (.int L)), some (Mk.mt bt), some (Mk.mt (.int (1 + u))), some (Mk.mt (.int (1 + v))), none] = some (Mk.mt (rowT false P), [some x5.m, some (Mk.mt (.int i)), some (Mk.mt R), some (Mk.mt (one.m false)), some (Mk.mt W), some (Mk.mt (.int mo)), some (Mk.mt (.int k)), some (Mk.mt (.int L)), some (Mk.mt bt), some (Mk.mt (.int (1 + u))), some (Mk.mt (.int (1 + v))), none]) := by
          rw [eP]
          simp [hR2, hbt, cA, cB, ps_addzt, Op.vs, E.vs, ownedAt]
          rw [szO_ok (by first | omega | (simp; omega)), szO_ok (by first | omega | (simp; omega))]
          first | done | simp | rfl
        have tt : ∀ (e : E) (ρ : Slots), ev G e ρ = some (Mk.mt (rowT false P), ρ) → ρ[7]? = some (some (Mk.mt (.int L))) → ex G (.ifs (.val (.op .gt (.cons (.callp "least_sum" (.cons (.k .non) (.cons e .nil))) (.cons (.var 7) .nil)))) Lright.s0bs6ts2tB Lright.s0bs6ts2eB) ρ = some (.next, ρ) := fun e ρ q r => by
          simp [q, lP, ng, r]
        exact tt _ _ q rfl
      have cond : evC G (.and (.val (.op .gt (.cons (.op .idx (.cons (.var 3) (.cons (.k (.int 2)) .nil))) (.cons (.k (.int 1)) .nil)))) (.val (.op .gt (.cons (.op .idx (.cons (.var 3) (.cons (.k (.int 3)) .nil))) (.cons (.k (.int 1)) .nil))))) [some x3.m, some (Mk.mt (.int i)), some (Mk.mt R), some (Mk.mt (one.m false)), some (Mk.mt W), some (Mk.mt (.int mo)), some (Mk.mt (.int k)), some (Mk.mt (.int L)), v8, v9, v10, none] = some (true, [some x3.m, some (Mk.mt (.int i)), some (Mk.mt R), some (Mk.mt (one.m false)), some (Mk.mt W), some (Mk.mt (.int mo)), some (Mk.mt (.int k)), some (Mk.mt (.int L)), v8, v9, v10, none]) := by
        simp [Lab.m, c1, c2]
      rw [ex_ifs, cond, bnd_ok, if_pos rfl, ex_seq, t0, bnd_ok]
      show ex G (.seq Lright.s0bs6ts1 (.seq Lright.s0bs6ts2 .skip)) _ = _
      rw [ex_seq, t1, bnd_ok]
      show ex G (.seq Lright.s0bs6ts2 .skip) _ = _
      rw [ex_seq, t2, bnd_ok]
      rfl
    · refine ⟨x3, v8, v9, v10, ?_, o3.mono (by omega)⟩
      by_cases c1 : 1 < one.s
      · have c2 : ¬ 1 < one.t := fun z => c ⟨c1, z⟩
        simp [Lab.m, c1, c2]
      · simp [Lab.m, c1]
  obtain ⟨y, w8, w9, w10, s6, oy⟩ := s6
  refine ⟨y, w8, w9, w10, ?_, oy⟩
  rw [ex_seq, s0, bnd_ok]
  simp only [ex_fz, frzS_c, frzS_n, List.getElem?_cons_succ, List.getElem?_cons_zero, List.set_cons_succ, List.set_cons_zero, frz_fz, frz_ls]
  rw [ex_seq, s1, bnd_ok]
  simp only [ex_fz, frzS_c, frzS_n, List.getElem?_cons_succ, List.getElem?_cons_zero, List.set_cons_succ, List.set_cons_zero, frz_fz, frz_ls]
  rw [ex_seq, s2, bnd_ok, ex_seq, s3, bnd_ok]
  simp only [ex_fz, frzS_c, frzS_n, List.getElem?_cons_succ, List.getElem?_cons_zero, List.set_cons_succ, List.set_cons_zero, frz_fz, frz_ls]
  rw [ex_seq, s4, bnd_ok, ex_seq, s5, bnd_ok, ex_seq, s6, bnd_ok]
  simp
theorem right_ok (C : Calls fns) : RightOk (Lright.d.fn cs fns) := ⟨rfl, by
  intro x h
  obtain ⟨G, hG⟩ : ∃ G : Gc, G = Lright.d.gc cs fns := ⟨_, rfl⟩
  have hGp : G.pin = [0] := by rw [hG]; rfl
  have loop : ∃ ρ', ex G Lright.s0 [some x.m, none, none, none, none, none, none, none, none, none, none, none] = some (.next, ρ') ∧ ∃ (y : Box) (v8 v9 v10 : Option M), ρ' = [some y.m, none, none, none, none, none, none, none, v8, v9, v10, none] := by
    rw [ex_for, evI_range (n := 4) (ρ' := [some x.m, none, none, none, none, none, none, none, none, none, none, none]) (by simp) (by decide), bnd_ok]
    obtain ⟨ρ', e1, y, v8, v9, v10, _, e2⟩ := forL_run2 (mk := fun i : Nat => T.int (i : Int)) (f := fun x ρ => obd ((Tg.nm 1).store G.pin x ρ) fun ρ => ex G Lright.s0bB ρ)
      (fun done ρ => ∃ (y : Box) (v8 v9 v10 : Option M), y.ok (40 * (4 - done.length)) ∧ ρ = [some y.m, none, none, none, none, none, none, none, v8, v9, v10, none]) (all := List.range 4) (xs := List.range 4) (done := []) rfl ⟨x, none, none, none, h.mono (by decide), rfl⟩ (by
        rintro done i rest ρ he ⟨y, v8, v9, v10, oy, rfl⟩
        have hd : done.length < 4 := by have := congrArg List.length he; simp at this; omega
        obtain ⟨z, w8, w9, w10, e, oz⟩ := turn (G := G) (by rw [hG]; exact C) hGp (x := y) (n := 40 * (4 - (done.length + 1))) (oy.mono (by omega)) i v8 v9 v10
        refine ⟨.next, _, ?_, .inl rfl, z, w8, w9, w10, by rw [List.length_append]; exact oz, rfl⟩
        rw [st_nm, if_pos ⟨by simp, by rw [hGp]; decide⟩, obd_ok]
        exact e)
    exact ⟨ρ', e1, y, v8, v9, v10, e2⟩
  obtain ⟨ρ', e, y, v8, v9, v10, rfl⟩ := loop
  refine ⟨y, ?_⟩
  rw [fn_sem, ← hG]
  unfold Mk.run
  rw [show Lright.d.body = Lright.b from rfl]
  rw [show ([x.m].map some ++ List.replicate (Lright.d.n - [x.m].length) none : Slots) = [some x.m, none, none, none, none, none, none, none, none, none, none, none] from rfl]
  rw [ex_seq, e, bnd_ok]
  simp [Lright.d, hGp]⟩
end
abbrev tb (C : Addr) := tabN D (cs C)
theorem law_run (C : Addr) (ns : List Int) (hl : ns.length ≤ 63) : valOf (tb C 10) "law" [.rd ns] = some (Mk.mt (.bl true)) := by
  have hc : cs C "Chain" = some (.cl (ci_Chain C)) := rfl
  have sd : EndDefs D := ⟨⟨rfl, rfl, rfl, rfl, rfl, rfl, rfl, rfl, rfl, rfl, rfl⟩, rfl, rfl⟩
  have take : ∀ n, 1 ≤ n → Has "_law_take" TakeOk (tb C n) := base fun fns => ⟨_, at_step rfl, take_ok⟩
  have labels : ∀ n, 2 ≤ n → Has "_law_labels" LabelsOk (tb C n) := deep take fun fns ⟨F, h1, h2⟩ => ⟨_, at_step rfl, labels_ok h1 h2⟩
  have box : ∀ n, 1 ≤ n → BoxOk (tb C n) := base fun fns => box_ok rfl
  have cells : ∀ n, 1 ≤ n → CellsOk (tb C n) := base fun fns => cells_ok rfl
  have calls : ∀ n, 8 ≤ n → Calls (tb C n) := fun n hn => ⟨take n (by omega), labels n (by omega), lsum_lib hc sd rfl rfl n hn⟩
  have right : ∀ n, 9 ≤ n → Has "_law_right" RightOk (tb C n) := deep calls fun fns h => ⟨_, at_step rfl, right_ok h⟩
  obtain ⟨F, h1, h2⟩ := right 9 (by decide)
  exact law3_ok (D := D) (cs := cs C) (fns := tb C 9) rfl (cells 9 (by decide)) (box 9 (by decide)) h1 h2 ns hl
end K67
set_option maxHeartbeats 4000000
namespace K67
open PySem L2 Mk
section
variable {K : PySem.W.Frag} {mg : Str → Option Value}
theorem dok0 {f : Addr} {h : Heap} (X : K.In h) (G : h.Ns mainGlobals mg) {o kV dc pm cd ct : Value} {od an : Option Addr} {sl : Array (Option Value)}
    (a : PySem.W.nsIn K mainGlobals "sizes_ahead" = some (some (.ref f))) (l : K.lookup f = some ⟨o, od, .func (PySem.W.fnOf "sizes_ahead" "sizes_ahead" (defArgs (top 2)) (defBody (top 2)) (defScope (top 2)) .none kV dc pm an cd ct), sl⟩) (c : PySem.W.codeIn K cd "sizes_ahead" = true) (k : PySem.W.keepIn K (.ref f) = true) :
    DOk K mg Z I0 Mk.P_sizes_ahead.N (top 2) Mk.P_sizes_ahead.d := by
  have F := fun_mk (st := top 2) l c k
  have B := F.binds (ps := I0.ps) fun _ _ _ _ _ _ us hl => match us, hl with | [_], _ => rfl
  refine ⟨⟨f, _, PySem.W.mg_of X G a, k, F, B, fun ks perm h => ?_⟩, sc0, rfl, rfl, chk0⟩
  cases h
theorem dok1 {f : Addr} {h : Heap} (X : K.In h) (G : h.Ns mainGlobals mg) {o kV dc pm cd ct : Value} {od an : Option Addr} {sl : Array (Option Value)}
    (a : PySem.W.nsIn K mainGlobals "is_full" = some (some (.ref f))) (l : K.lookup f = some ⟨o, od, .func (PySem.W.fnOf "is_full" "is_full" (defArgs (top 3)) (defBody (top 3)) (defScope (top 3)) .none kV dc pm an cd ct), sl⟩) (c : PySem.W.codeIn K cd "is_full" = true) (k : PySem.W.keepIn K (.ref f) = true) :
    DOk K mg Z I1 Mk.P_is_full.N (top 3) Mk.P_is_full.d := by
  have F := fun_mk (st := top 3) l c k
  have B := F.binds (ps := I1.ps) fun _ _ _ _ _ _ us hl => match us, hl with | [_, _], _ => rfl
  refine ⟨⟨f, _, PySem.W.mg_of X G a, k, F, B, fun ks perm h => ?_⟩, sc1, rfl, rfl, chk1⟩
  cases h
theorem dok2 {f : Addr} {h : Heap} (X : K.In h) (G : h.Ns mainGlobals mg) {o kV dc pm cd ct : Value} {od an : Option Addr} {sl : Array (Option Value)}
    (a : PySem.W.nsIn K mainGlobals "tupled" = some (some (.ref f))) (l : K.lookup f = some ⟨o, od, .func (PySem.W.fnOf "tupled" "tupled" (defArgs (top 7)) (defBody (top 7)) (defScope (top 7)) .none kV dc pm an cd ct), sl⟩) (c : PySem.W.codeIn K cd "tupled" = true) (k : PySem.W.keepIn K (.ref f) = true) :
    DOk K mg Z I2 Mk.P_tupled.N (top 7) Mk.P_tupled.d := by
  have F := fun_mk (st := top 7) l c k
  have B := F.binds (ps := I2.ps) fun _ _ _ _ _ _ us hl => match us, hl with | [_], _ => rfl
  refine ⟨⟨f, _, PySem.W.mg_of X G a, k, F, B, fun ks perm h => ?_⟩, sc2, rfl, rfl, chk2⟩
  cases h
theorem dok3 {f : Addr} {h : Heap} (X : K.In h) (G : h.Ns mainGlobals mg) {o kV dc pm cd ct : Value} {od an : Option Addr} {sl : Array (Option Value)}
    (a : PySem.W.nsIn K mainGlobals "look_room" = some (some (.ref f))) (l : K.lookup f = some ⟨o, od, .func (PySem.W.fnOf "look_room" "look_room" (defArgs (top 9)) (defBody (top 9)) (defScope (top 9)) .none kV dc pm an cd ct), sl⟩) (c : PySem.W.codeIn K cd "look_room" = true) (k : PySem.W.keepIn K (.ref f) = true) :
    DOk K mg Z I3 Mk.P_look_room.N (top 9) Mk.P_look_room.d := by
  have F := fun_mk (st := top 9) l c k
  have B := F.binds (ps := I3.ps) fun _ _ _ _ _ _ us hl => match us, hl with | [_, _], _ => rfl
  refine ⟨⟨f, _, PySem.W.mg_of X G a, k, F, B, fun ks perm h => ?_⟩, sc3, rfl, rfl, chk3⟩
  cases h
theorem dok4 {C_Chain f : Addr} {o kV dc pm cd ct : Value} {od an : Option Addr} {sl : Array (Option Value)}
    (a : PySem.W.findIn K (.ref C_Chain) "__init__" = some (some (.ref f))) (i : PySem.W.isFn K (.ref f) = true) (l : K.lookup f = some ⟨o, od, .func (PySem.W.fnOf "__init__" "Chain.__init__" (defArgs (inClass (top 10) 0)) (defBody (inClass (top 10) 0)) (defScope (inClass (top 10) 0)) .none kV dc pm an cd ct), sl⟩) (c : PySem.W.codeIn K cd "Chain.__init__" = true) (k : PySem.W.keepIn K (.ref f) = true) (mk : PySem.W.makesIn K C_Chain = true) (kc : PySem.W.keepIn K (.ref C_Chain) = true) :
    DOkM K (cs C_Chain) Z I4 Mk.P_Chain_init.N (inClass (top 10) 0) Mk.P_Chain_init.d := by
  have F := fun_mk (st := inClass (top 10) 0) l c k
  have B := F.binds (ps := I4.ps) fun _ _ _ _ _ _ us hl => match us, hl with | [_, _, _], _ => rfl
  refine ⟨fun ci hci => ?_, sc4, rfl, rfl, chk4⟩
  have hci : some (T.cl (ci_Chain C_Chain)) = some (.cl ci) := hci
  cases hci
  exact ⟨f, _, _, fun _ => ⟨mk, a, i, kc⟩, fun z => absurd rfl z, F, B⟩
theorem dok5 {C_Chain f : Addr} {o kV dc pm cd ct : Value} {od an : Option Addr} {sl : Array (Option Value)}
    (a : PySem.W.findIn K (.ref C_Chain) "many" = some (some (.ref f))) (i : PySem.W.isFn K (.ref f) = true) (l : K.lookup f = some ⟨o, od, .func (PySem.W.fnOf "many" "Chain.many" (defArgs (inClass (top 10) 1)) (defBody (inClass (top 10) 1)) (defScope (inClass (top 10) 1)) .none kV dc pm an cd ct), sl⟩) (c : PySem.W.codeIn K cd "Chain.many" = true) (k : PySem.W.keepIn K (.ref f) = true) :
    DOkM K (cs C_Chain) Z I5 Mk.P_Chain_many.N (inClass (top 10) 1) Mk.P_Chain_many.d := by
  have F := fun_mk (st := inClass (top 10) 1) l c k
  have B := F.binds (ps := I5.ps) fun _ _ _ _ _ _ us hl => match us, hl with | [_], _ => rfl
  refine ⟨fun ci hci => ?_, sc5, rfl, rfl, chk5⟩
  have hci : some (T.cl (ci_Chain C_Chain)) = some (.cl ci) := hci
  cases hci
  exact ⟨f, _, _, fun z => absurd (show ("many" : Str) = "__init__" from z) (by decide +kernel), fun _ => ⟨⟨a, i, k⟩, by show ("many" : Str) ∉ (["own_labels", "own_ahead", "own_heights", "own_edges"] : List Str); decide +kernel⟩, F, B⟩
theorem dok6 {C_Chain f : Addr} {o kV dc pm cd ct : Value} {od an : Option Addr} {sl : Array (Option Value)}
    (a : PySem.W.findIn K (.ref C_Chain) "weight" = some (some (.ref f))) (i : PySem.W.isFn K (.ref f) = true) (l : K.lookup f = some ⟨o, od, .func (PySem.W.fnOf "weight" "Chain.weight" (defArgs (inClass (top 10) 2)) (defBody (inClass (top 10) 2)) (defScope (inClass (top 10) 2)) .none kV dc pm an cd ct), sl⟩) (c : PySem.W.codeIn K cd "Chain.weight" = true) (k : PySem.W.keepIn K (.ref f) = true) :
    DOkM K (cs C_Chain) Z I6 Mk.P_Chain_weight.N (inClass (top 10) 2) Mk.P_Chain_weight.d := by
  have F := fun_mk (st := inClass (top 10) 2) l c k
  have B := F.binds (ps := I6.ps) fun _ _ _ _ _ _ us hl => match us, hl with | [_, _], _ => rfl
  refine ⟨fun ci hci => ?_, sc6, rfl, rfl, chk6⟩
  have hci : some (T.cl (ci_Chain C_Chain)) = some (.cl ci) := hci
  cases hci
  exact ⟨f, _, _, fun z => absurd (show ("weight" : Str) = "__init__" from z) (by decide +kernel), fun _ => ⟨⟨a, i, k⟩, by show ("weight" : Str) ∉ (["own_labels", "own_ahead", "own_heights", "own_edges"] : List Str); decide +kernel⟩, F, B⟩
theorem dok7 {C_Chain f : Addr} {o kV dc pm cd ct : Value} {od an : Option Addr} {sl : Array (Option Value)}
    (a : PySem.W.findIn K (.ref C_Chain) "slope" = some (some (.ref f))) (i : PySem.W.isFn K (.ref f) = true) (l : K.lookup f = some ⟨o, od, .func (PySem.W.fnOf "slope" "Chain.slope" (defArgs (inClass (top 10) 3)) (defBody (inClass (top 10) 3)) (defScope (inClass (top 10) 3)) .none kV dc pm an cd ct), sl⟩) (c : PySem.W.codeIn K cd "Chain.slope" = true) (k : PySem.W.keepIn K (.ref f) = true) :
    DOkM K (cs C_Chain) Z I7 Mk.P_Chain_slope.N (inClass (top 10) 3) Mk.P_Chain_slope.d := by
  have F := fun_mk (st := inClass (top 10) 3) l c k
  have B := F.binds (ps := I7.ps) fun _ _ _ _ _ _ us hl => match us, hl with | [_, _, _], _ => rfl
  refine ⟨fun ci hci => ?_, sc7, rfl, rfl, chk7⟩
  have hci : some (T.cl (ci_Chain C_Chain)) = some (.cl ci) := hci
  cases hci
  exact ⟨f, _, _, fun z => absurd (show ("slope" : Str) = "__init__" from z) (by decide +kernel), fun _ => ⟨⟨a, i, k⟩, by show ("slope" : Str) ∉ (["own_labels", "own_ahead", "own_heights", "own_edges"] : List Str); decide +kernel⟩, F, B⟩
theorem dok8 {C_Chain f : Addr} {o kV dc pm cd ct : Value} {od an : Option Addr} {sl : Array (Option Value)}
    (a : PySem.W.findIn K (.ref C_Chain) "first_above" = some (some (.ref f))) (i : PySem.W.isFn K (.ref f) = true) (l : K.lookup f = some ⟨o, od, .func (PySem.W.fnOf "first_above" "Chain.first_above" (defArgs (inClass (top 10) 4)) (defBody (inClass (top 10) 4)) (defScope (inClass (top 10) 4)) .none kV dc pm an cd ct), sl⟩) (c : PySem.W.codeIn K cd "Chain.first_above" = true) (k : PySem.W.keepIn K (.ref f) = true) :
    DOkM K (cs C_Chain) Z I8 Mk.P_Chain_first_above.N (inClass (top 10) 4) Mk.P_Chain_first_above.d := by
  have F := fun_mk (st := inClass (top 10) 4) l c k
  have B := F.binds (ps := I8.ps) fun _ _ _ _ _ _ us hl => match us, hl with | [_, _, _], _ => rfl
  refine ⟨fun ci hci => ?_, sc8, rfl, rfl, chk8⟩
  have hci : some (T.cl (ci_Chain C_Chain)) = some (.cl ci) := hci
  cases hci
  exact ⟨f, _, _, fun z => absurd (show ("first_above" : Str) = "__init__" from z) (by decide +kernel), fun _ => ⟨⟨a, i, k⟩, by show ("first_above" : Str) ∉ (["own_labels", "own_ahead", "own_heights", "own_edges"] : List Str); decide +kernel⟩, F, B⟩
theorem dok9 {C_Chain f : Addr} {o kV dc pm cd ct : Value} {od an : Option Addr} {sl : Array (Option Value)}
    (a : PySem.W.findIn K (.ref C_Chain) "heights" = some (some (.ref f))) (i : PySem.W.isFn K (.ref f) = true) (l : K.lookup f = some ⟨o, od, .func (PySem.W.fnOf "heights" "Chain.heights" (defArgs (inClass (top 10) 5)) (defBody (inClass (top 10) 5)) (defScope (inClass (top 10) 5)) .none kV dc pm an cd ct), sl⟩) (c : PySem.W.codeIn K cd "Chain.heights" = true) (k : PySem.W.keepIn K (.ref f) = true) :
    DOkM K (cs C_Chain) Z I9 Mk.P_Chain_heights.N (inClass (top 10) 5) Mk.P_Chain_heights.d := by
  have F := fun_mk (st := inClass (top 10) 5) l c k
  have B := F.binds (ps := I9.ps) fun _ _ _ _ _ _ us hl => match us, hl with | [_, _], _ => rfl
  refine ⟨fun ci hci => ?_, sc9, rfl, rfl, chk9⟩
  have hci : some (T.cl (ci_Chain C_Chain)) = some (.cl ci) := hci
  cases hci
  exact ⟨f, _, _, fun z => absurd (show ("heights" : Str) = "__init__" from z) (by decide +kernel), fun _ => ⟨⟨a, i, k⟩, by show ("heights" : Str) ∉ (["own_labels", "own_ahead", "own_heights", "own_edges"] : List Str); decide +kernel⟩, F, B⟩
theorem dok10 {C_Chain f : Addr} {o kV dc pm cd ct : Value} {od an : Option Addr} {sl : Array (Option Value)}
    (a : PySem.W.findIn K (.ref C_Chain) "placing" = some (some (.ref f))) (i : PySem.W.isFn K (.ref f) = true) (l : K.lookup f = some ⟨o, od, .func (PySem.W.fnOf "placing" "Chain.placing" (defArgs (inClass (top 10) 6)) (defBody (inClass (top 10) 6)) (defScope (inClass (top 10) 6)) .none kV dc pm an cd ct), sl⟩) (c : PySem.W.codeIn K cd "Chain.placing" = true) (k : PySem.W.keepIn K (.ref f) = true) :
    DOkM K (cs C_Chain) Z I10 Mk.P_Chain_placing.N (inClass (top 10) 6) Mk.P_Chain_placing.d := by
  have F := fun_mk (st := inClass (top 10) 6) l c k
  have B := F.binds (ps := I10.ps) fun _ _ _ _ _ _ us hl => match us, hl with | [_, _], _ => rfl
  refine ⟨fun ci hci => ?_, sc10, rfl, rfl, chk10⟩
  have hci : some (T.cl (ci_Chain C_Chain)) = some (.cl ci) := hci
  cases hci
  exact ⟨f, _, _, fun z => absurd (show ("placing" : Str) = "__init__" from z) (by decide +kernel), fun _ => ⟨⟨a, i, k⟩, by show ("placing" : Str) ∉ (["own_labels", "own_ahead", "own_heights", "own_edges"] : List Str); decide +kernel⟩, F, B⟩
theorem dok11 {C_Chain f : Addr} {o kV dc pm cd ct : Value} {od an : Option Addr} {sl : Array (Option Value)}
    (a : PySem.W.findIn K (.ref C_Chain) "pushed" = some (some (.ref f))) (i : PySem.W.isFn K (.ref f) = true) (l : K.lookup f = some ⟨o, od, .func (PySem.W.fnOf "pushed" "Chain.pushed" (defArgs (inClass (top 10) 7)) (defBody (inClass (top 10) 7)) (defScope (inClass (top 10) 7)) .none kV dc pm an cd ct), sl⟩) (c : PySem.W.codeIn K cd "Chain.pushed" = true) (k : PySem.W.keepIn K (.ref f) = true) :
    DOkM K (cs C_Chain) Z I11 Mk.P_Chain_pushed.N (inClass (top 10) 7) Mk.P_Chain_pushed.d := by
  have F := fun_mk (st := inClass (top 10) 7) l c k
  have B := F.binds (ps := I11.ps) fun _ _ _ _ _ _ us hl => match us, hl with | [_, _, _], _ => rfl
  refine ⟨fun ci hci => ?_, sc11, rfl, rfl, chk11⟩
  have hci : some (T.cl (ci_Chain C_Chain)) = some (.cl ci) := hci
  cases hci
  exact ⟨f, _, _, fun z => absurd (show ("pushed" : Str) = "__init__" from z) (by decide +kernel), fun _ => ⟨⟨a, i, k⟩, by show ("pushed" : Str) ∉ (["own_labels", "own_ahead", "own_heights", "own_edges"] : List Str); decide +kernel⟩, F, B⟩
theorem dok12 {f : Addr} {h : Heap} (X : K.In h) (G : h.Ns mainGlobals mg) {o kV dc pm cd ct : Value} {od an : Option Addr} {sl : Array (Option Value)}
    (a : PySem.W.nsIn K mainGlobals "cost" = some (some (.ref f))) (l : K.lookup f = some ⟨o, od, .func (PySem.W.fnOf "cost" "cost" (defArgs (top 11)) (defBody (top 11)) (defScope (top 11)) .none kV dc pm an cd ct), sl⟩) (c : PySem.W.codeIn K cd "cost" = true) (k : PySem.W.keepIn K (.ref f) = true) :
    DOk K mg Z I12 Mk.P_cost.N (top 11) Mk.P_cost.d := by
  have F := fun_mk (st := top 11) l c k
  have B := F.binds (ps := I12.ps) fun _ _ _ _ _ _ us hl => match us, hl with | [_, _], _ => rfl
  refine ⟨⟨f, _, PySem.W.mg_of X G a, k, F, B, fun ks perm h => ?_⟩, sc12, rfl, rfl, chk12⟩
  cases h
theorem dok13 {f : Addr} {h : Heap} (X : K.In h) (G : h.Ns mainGlobals mg) {o kV dc pm cd ct : Value} {od an : Option Addr} {sl : Array (Option Value)}
    (a : PySem.W.nsIn K mainGlobals "lowest" = some (some (.ref f))) (l : K.lookup f = some ⟨o, od, .func (PySem.W.fnOf "lowest" "lowest" (defArgs (top 12)) (defBody (top 12)) (defScope (top 12)) .none kV dc pm an cd ct), sl⟩) (c : PySem.W.codeIn K cd "lowest" = true) (k : PySem.W.keepIn K (.ref f) = true) :
    DOk K mg Z I13 Mk.P_lowest_2.N (top 12) Mk.P_lowest_2.d := by
  have F := fun_mk (st := top 12) l c k
  have B := F.binds (ps := I13.ps) fun _ _ _ _ _ _ us hl => match us, hl with | [_, _], _ => rfl
  refine ⟨⟨f, _, PySem.W.mg_of X G a, k, F, B, fun ks perm h => ?_⟩, sc13, rfl, rfl, chk13⟩
  cases h
theorem dok14 {f : Addr} {h : Heap} (X : K.In h) (G : h.Ns mainGlobals mg) {o kV dc pm cd ct : Value} {od an : Option Addr} {sl : Array (Option Value)}
    (a : PySem.W.nsIn K mainGlobals "least_sum" = some (some (.ref f))) (l : K.lookup f = some ⟨o, od, .func (PySem.W.fnOf "least_sum" "least_sum" (defArgs (top 13)) (defBody (top 13)) (defScope (top 13)) .none kV dc pm an cd ct), sl⟩) (c : PySem.W.codeIn K cd "least_sum" = true) (k : PySem.W.keepIn K (.ref f) = true) :
    DOk K mg Z I14 Mk.P_least_sum.N (top 13) Mk.P_least_sum.d := by
  have F := fun_mk (st := top 13) l c k
  have B := F.binds (ps := I14.ps) fun _ _ _ _ _ _ us hl => match us, hl with | [_, _], _ => rfl
  refine ⟨⟨f, _, PySem.W.mg_of X G a, k, F, B, fun ks perm h => ?_⟩, sc14, rfl, rfl, chk14⟩
  cases h
theorem dok15 {f : Addr} {h : Heap} (X : K.In h) (G : h.Ns mainGlobals mg) {o kV dc pm cd ct : Value} {od an : Option Addr} {sl : Array (Option Value)}
    (a : PySem.W.nsIn K mainGlobals "_law_box" = some (some (.ref f))) (l : K.lookup f = some ⟨o, od, .func (PySem.W.fnOf "_law_box" "_law_box" (defArgs (top 15)) (defBody (top 15)) (defScope (top 15)) .none kV dc pm an cd ct), sl⟩) (c : PySem.W.codeIn K cd "_law_box" = true) (k : PySem.W.keepIn K (.ref f) = true) :
    DOk K mg Z I15 Mk.Lbox.N (top 15) Mk.Lbox.d := by
  have F := fun_mk (st := top 15) l c k
  have B := F.binds (ps := I15.ps) fun _ _ _ _ _ _ us hl => match us, hl with | [_, _], _ => rfl
  refine ⟨⟨f, _, PySem.W.mg_of X G a, k, F, B, fun ks perm h => ?_⟩, sc15, rfl, rfl, chk15⟩
  cases h
theorem dok16 {f : Addr} {h : Heap} (X : K.In h) (G : h.Ns mainGlobals mg) {o kV dc pm cd ct : Value} {od an : Option Addr} {sl : Array (Option Value)}
    (a : PySem.W.nsIn K mainGlobals "_law_take" = some (some (.ref f))) (l : K.lookup f = some ⟨o, od, .func (PySem.W.fnOf "_law_take" "_law_take" (defArgs (top 16)) (defBody (top 16)) (defScope (top 16)) .none kV dc pm an cd ct), sl⟩) (c : PySem.W.codeIn K cd "_law_take" = true) (k : PySem.W.keepIn K (.ref f) = true) :
    DOk K mg Z I16 Mk.Ltake.N (top 16) Mk.Ltake.d := by
  have F := fun_mk (st := top 16) l c k
  have B := F.binds (ps := I16.ps) fun _ _ _ _ _ _ us hl => match us, hl with | [_, _], _ => rfl
  refine ⟨⟨f, _, PySem.W.mg_of X G a, k, F, B, fun ks perm h => ?_⟩, sc16, rfl, rfl, chk16⟩
  cases h
theorem dok17 {f : Addr} {h : Heap} (X : K.In h) (G : h.Ns mainGlobals mg) {o kV dc pm cd ct : Value} {od an : Option Addr} {sl : Array (Option Value)}
    (a : PySem.W.nsIn K mainGlobals "_law_cells" = some (some (.ref f))) (l : K.lookup f = some ⟨o, od, .func (PySem.W.fnOf "_law_cells" "_law_cells" (defArgs (top 17)) (defBody (top 17)) (defScope (top 17)) .none kV dc pm an cd ct), sl⟩) (c : PySem.W.codeIn K cd "_law_cells" = true) (k : PySem.W.keepIn K (.ref f) = true) :
    DOk K mg Z I17 Mk.Lcells.N (top 17) Mk.Lcells.d := by
  have F := fun_mk (st := top 17) l c k
  have B := F.binds (ps := I17.ps) fun _ _ _ _ _ _ us hl => match us, hl with | [_, _], _ => rfl
  refine ⟨⟨f, _, PySem.W.mg_of X G a, k, F, B, fun ks perm h => ?_⟩, sc17, rfl, rfl, chk17⟩
  cases h
theorem dok18 {f : Addr} {h : Heap} (X : K.In h) (G : h.Ns mainGlobals mg) {o kV dc pm cd ct : Value} {od an : Option Addr} {sl : Array (Option Value)}
    (a : PySem.W.nsIn K mainGlobals "_law_labels" = some (some (.ref f))) (l : K.lookup f = some ⟨o, od, .func (PySem.W.fnOf "_law_labels" "_law_labels" (defArgs (top 18)) (defBody (top 18)) (defScope (top 18)) .none kV dc pm an cd ct), sl⟩) (c : PySem.W.codeIn K cd "_law_labels" = true) (k : PySem.W.keepIn K (.ref f) = true) :
    DOk K mg Z I18 Mk.Llabels.N (top 18) Mk.Llabels.d := by
  have F := fun_mk (st := top 18) l c k
  have B := F.binds (ps := I18.ps) fun _ _ _ _ _ _ us hl => match us, hl with | [_, _, _], _ => rfl
  refine ⟨⟨f, _, PySem.W.mg_of X G a, k, F, B, fun ks perm h => ?_⟩, sc18, rfl, rfl, chk18⟩
  cases h
theorem dok19 {f : Addr} {h : Heap} (X : K.In h) (G : h.Ns mainGlobals mg) {o kV dc pm cd ct : Value} {od an : Option Addr} {sl : Array (Option Value)}
    (a : PySem.W.nsIn K mainGlobals "_law_right" = some (some (.ref f))) (l : K.lookup f = some ⟨o, od, .func (PySem.W.fnOf "_law_right" "_law_right" (defArgs (top 19)) (defBody (top 19)) (defScope (top 19)) .none kV dc pm an cd ct), sl⟩) (c : PySem.W.codeIn K cd "_law_right" = true) (k : PySem.W.keepIn K (.ref f) = true) :
    DOk K mg Z I19 K67.Lright.N (top 19) K67.Lright.d := by
  have F := fun_mk (st := top 19) l c k
  have B := F.binds (ps := I19.ps) fun _ _ _ _ _ _ us hl => match us, hl with | [_], _ => rfl
  refine ⟨⟨f, _, PySem.W.mg_of X G a, k, F, B, fun ks perm h => ?_⟩, sc19, rfl, rfl, chk19⟩
  cases h
theorem dok20 {f : Addr} {h : Heap} (X : K.In h) (G : h.Ns mainGlobals mg) {o kV dc pm cd ct : Value} {od an : Option Addr} {sl : Array (Option Value)}
    (a : PySem.W.nsIn K mainGlobals "law" = some (some (.ref f))) (l : K.lookup f = some ⟨o, od, .func (PySem.W.fnOf "law" "law" (defArgs (top 20)) (defBody (top 20)) (defScope (top 20)) .none kV dc pm an cd ct), sl⟩) (c : PySem.W.codeIn K cd "law" = true) (k : PySem.W.keepIn K (.ref f) = true) :
    DOk K mg Z I20 Mk.P_law.N (top 20) Mk.P_law.d := by
  have F := fun_mk (st := top 20) l c k
  have B := F.binds (ps := I20.ps) fun _ _ _ _ _ _ us hl => match us, hl with | [_], _ => rfl
  refine ⟨⟨f, _, PySem.W.mg_of X G a, k, F, B, fun ks perm h => ?_⟩, sc20, rfl, rfl, chk20⟩
  cases h
theorem dok21 {C_Chain f : Addr} {o kV dc pm cd ct : Value} {od an : Option Addr} {sl : Array (Option Value)}
    (a : PySem.W.findIn K (.ref C_Chain) "many" = some (some (.ref f))) (i : PySem.W.isFn K (.ref f) = true) (l : K.lookup f = some ⟨o, od, .func (PySem.W.fnOf "many" "Chain.many" (defArgs (inClass (top 10) 1)) (defBody (inClass (top 10) 1)) (defScope (inClass (top 10) 1)) .none kV dc pm an cd ct), sl⟩) (c : PySem.W.codeIn K cd "Chain.many" = true) (k : PySem.W.keepIn K (.ref f) = true) :
    DOkM K (cs C_Chain) Z I21 Mk.P_Chain_many_l.N (inClass (top 10) 1) Mk.P_Chain_many_l.d := by
  have F := fun_mk (st := inClass (top 10) 1) l c k
  have B := F.binds (ps := I21.ps) fun _ _ _ _ _ _ us hl => match us, hl with | [_], _ => rfl
  refine ⟨fun ci hci => ?_, sc21, rfl, rfl, chk21⟩
  have hci : some (T.cl (ci_Chain C_Chain)) = some (.cl ci) := hci
  cases hci
  exact ⟨f, _, _, fun z => absurd (show ("many" : Str) = "__init__" from z) (by decide +kernel), fun _ => ⟨⟨a, i, k⟩, by show ("many" : Str) ∉ (["own_labels", "own_ahead", "own_heights", "own_edges"] : List Str); decide +kernel⟩, F, B⟩
end
theorem all_mk {l : PySem.W.OpenLaw} {w : World} {K : PySem.W.Frag} {h : Heap} {mg : Str → Option Value} {fa : Addr} (X : K.In h) (G : h.Ns mainGlobals mg) (hfa : mg "law" = some (.ref fa))
    {C_Chain : Addr} (gC_Chain : PySem.W.nsIn K mainGlobals "Chain" = some (some (.ref C_Chain)))
    (pg_Chain : PySem.W.plainGet K C_Chain Str.empty = true) (hd_Chain : PySem.W.hasDictIn K C_Chain = true) (po_Chain : PySem.W.plainOver K C_Chain = true) (sa_Chain : PySem.W.findIn K (.ref C_Chain) "__setattr__" = some (some (.builtin "object.__setattr__"))) (mk_Chain : PySem.W.makesIn K C_Chain = true) (kc_Chain : PySem.W.keepIn K (.ref C_Chain) = true)
    (na0_Chain : PySem.W.findIn K (.ref C_Chain) "own_labels" = some none)
    (na1_Chain : PySem.W.findIn K (.ref C_Chain) "own_ahead" = some none)
    (na2_Chain : PySem.W.findIn K (.ref C_Chain) "own_heights" = some none)
    (na3_Chain : PySem.W.findIn K (.ref C_Chain) "own_edges" = some none)
    {f0 : Addr} {o0 kV0 dc0 pm0 cd0 ct0 : Value} {od0 an0 : Option Addr} {sl0 : Array (Option Value)}
    (a0 : PySem.W.nsIn K mainGlobals "sizes_ahead" = some (some (.ref f0))) (l0 : K.lookup f0 = some ⟨o0, od0, .func (PySem.W.fnOf "sizes_ahead" "sizes_ahead" (defArgs (top 2)) (defBody (top 2)) (defScope (top 2)) .none kV0 dc0 pm0 an0 cd0 ct0), sl0⟩) (c0 : PySem.W.codeIn K cd0 "sizes_ahead" = true) (k0 : PySem.W.keepIn K (.ref f0) = true)
    {f1 : Addr} {o1 kV1 dc1 pm1 cd1 ct1 : Value} {od1 an1 : Option Addr} {sl1 : Array (Option Value)}
    (a1 : PySem.W.nsIn K mainGlobals "is_full" = some (some (.ref f1))) (l1 : K.lookup f1 = some ⟨o1, od1, .func (PySem.W.fnOf "is_full" "is_full" (defArgs (top 3)) (defBody (top 3)) (defScope (top 3)) .none kV1 dc1 pm1 an1 cd1 ct1), sl1⟩) (c1 : PySem.W.codeIn K cd1 "is_full" = true) (k1 : PySem.W.keepIn K (.ref f1) = true)
    {f2 : Addr} {o2 kV2 dc2 pm2 cd2 ct2 : Value} {od2 an2 : Option Addr} {sl2 : Array (Option Value)}
    (a2 : PySem.W.nsIn K mainGlobals "tupled" = some (some (.ref f2))) (l2 : K.lookup f2 = some ⟨o2, od2, .func (PySem.W.fnOf "tupled" "tupled" (defArgs (top 7)) (defBody (top 7)) (defScope (top 7)) .none kV2 dc2 pm2 an2 cd2 ct2), sl2⟩) (c2 : PySem.W.codeIn K cd2 "tupled" = true) (k2 : PySem.W.keepIn K (.ref f2) = true)
    {f3 : Addr} {o3 kV3 dc3 pm3 cd3 ct3 : Value} {od3 an3 : Option Addr} {sl3 : Array (Option Value)}
    (a3 : PySem.W.nsIn K mainGlobals "look_room" = some (some (.ref f3))) (l3 : K.lookup f3 = some ⟨o3, od3, .func (PySem.W.fnOf "look_room" "look_room" (defArgs (top 9)) (defBody (top 9)) (defScope (top 9)) .none kV3 dc3 pm3 an3 cd3 ct3), sl3⟩) (c3 : PySem.W.codeIn K cd3 "look_room" = true) (k3 : PySem.W.keepIn K (.ref f3) = true)
    {f4 : Addr} {o4 kV4 dc4 pm4 cd4 ct4 : Value} {od4 an4 : Option Addr} {sl4 : Array (Option Value)}
    (a4 : PySem.W.findIn K (.ref C_Chain) "__init__" = some (some (.ref f4))) (i4 : PySem.W.isFn K (.ref f4) = true) (l4 : K.lookup f4 = some ⟨o4, od4, .func (PySem.W.fnOf "__init__" "Chain.__init__" (defArgs (inClass (top 10) 0)) (defBody (inClass (top 10) 0)) (defScope (inClass (top 10) 0)) .none kV4 dc4 pm4 an4 cd4 ct4), sl4⟩) (c4 : PySem.W.codeIn K cd4 "Chain.__init__" = true) (k4 : PySem.W.keepIn K (.ref f4) = true)
    {f5 : Addr} {o5 kV5 dc5 pm5 cd5 ct5 : Value} {od5 an5 : Option Addr} {sl5 : Array (Option Value)}
    (a5 : PySem.W.findIn K (.ref C_Chain) "many" = some (some (.ref f5))) (i5 : PySem.W.isFn K (.ref f5) = true) (l5 : K.lookup f5 = some ⟨o5, od5, .func (PySem.W.fnOf "many" "Chain.many" (defArgs (inClass (top 10) 1)) (defBody (inClass (top 10) 1)) (defScope (inClass (top 10) 1)) .none kV5 dc5 pm5 an5 cd5 ct5), sl5⟩) (c5 : PySem.W.codeIn K cd5 "Chain.many" = true) (k5 : PySem.W.keepIn K (.ref f5) = true)
    {f6 : Addr} {o6 kV6 dc6 pm6 cd6 ct6 : Value} {od6 an6 : Option Addr} {sl6 : Array (Option Value)}
    (a6 : PySem.W.findIn K (.ref C_Chain) "weight" = some (some (.ref f6))) (i6 : PySem.W.isFn K (.ref f6) = true) (l6 : K.lookup f6 = some ⟨o6, od6, .func (PySem.W.fnOf "weight" "Chain.weight" (defArgs (inClass (top 10) 2)) (defBody (inClass (top 10) 2)) (defScope (inClass (top 10) 2)) .none kV6 dc6 pm6 an6 cd6 ct6), sl6⟩) (c6 : PySem.W.codeIn K cd6 "Chain.weight" = true) (k6 : PySem.W.keepIn K (.ref f6) = true)
    {f7 : Addr} {o7 kV7 dc7 pm7 cd7 ct7 : Value} {od7 an7 : Option Addr} {sl7 : Array (Option Value)}
    (a7 : PySem.W.findIn K (.ref C_Chain) "slope" = some (some (.ref f7))) (i7 : PySem.W.isFn K (.ref f7) = true) (l7 : K.lookup f7 = some ⟨o7, od7, .func (PySem.W.fnOf "slope" "Chain.slope" (defArgs (inClass (top 10) 3)) (defBody (inClass (top 10) 3)) (defScope (inClass (top 10) 3)) .none kV7 dc7 pm7 an7 cd7 ct7), sl7⟩) (c7 : PySem.W.codeIn K cd7 "Chain.slope" = true) (k7 : PySem.W.keepIn K (.ref f7) = true)
    {f8 : Addr} {o8 kV8 dc8 pm8 cd8 ct8 : Value} {od8 an8 : Option Addr} {sl8 : Array (Option Value)}
    (a8 : PySem.W.findIn K (.ref C_Chain) "first_above" = some (some (.ref f8))) (i8 : PySem.W.isFn K (.ref f8) = true) (l8 : K.lookup f8 = some ⟨o8, od8, .func (PySem.W.fnOf "first_above" "Chain.first_above" (defArgs (inClass (top 10) 4)) (defBody (inClass (top 10) 4)) (defScope (inClass (top 10) 4)) .none kV8 dc8 pm8 an8 cd8 ct8), sl8⟩) (c8 : PySem.W.codeIn K cd8 "Chain.first_above" = true) (k8 : PySem.W.keepIn K (.ref f8) = true)
    {f9 : Addr} {o9 kV9 dc9 pm9 cd9 ct9 : Value} {od9 an9 : Option Addr} {sl9 : Array (Option Value)}
    (a9 : PySem.W.findIn K (.ref C_Chain) "heights" = some (some (.ref f9))) (i9 : PySem.W.isFn K (.ref f9) = true) (l9 : K.lookup f9 = some ⟨o9, od9, .func (PySem.W.fnOf "heights" "Chain.heights" (defArgs (inClass (top 10) 5)) (defBody (inClass (top 10) 5)) (defScope (inClass (top 10) 5)) .none kV9 dc9 pm9 an9 cd9 ct9), sl9⟩) (c9 : PySem.W.codeIn K cd9 "Chain.heights" = true) (k9 : PySem.W.keepIn K (.ref f9) = true)
    {f10 : Addr} {o10 kV10 dc10 pm10 cd10 ct10 : Value} {od10 an10 : Option Addr} {sl10 : Array (Option Value)}
    (a10 : PySem.W.findIn K (.ref C_Chain) "placing" = some (some (.ref f10))) (i10 : PySem.W.isFn K (.ref f10) = true) (l10 : K.lookup f10 = some ⟨o10, od10, .func (PySem.W.fnOf "placing" "Chain.placing" (defArgs (inClass (top 10) 6)) (defBody (inClass (top 10) 6)) (defScope (inClass (top 10) 6)) .none kV10 dc10 pm10 an10 cd10 ct10), sl10⟩) (c10 : PySem.W.codeIn K cd10 "Chain.placing" = true) (k10 : PySem.W.keepIn K (.ref f10) = true)
    {f11 : Addr} {o11 kV11 dc11 pm11 cd11 ct11 : Value} {od11 an11 : Option Addr} {sl11 : Array (Option Value)}
    (a11 : PySem.W.findIn K (.ref C_Chain) "pushed" = some (some (.ref f11))) (i11 : PySem.W.isFn K (.ref f11) = true) (l11 : K.lookup f11 = some ⟨o11, od11, .func (PySem.W.fnOf "pushed" "Chain.pushed" (defArgs (inClass (top 10) 7)) (defBody (inClass (top 10) 7)) (defScope (inClass (top 10) 7)) .none kV11 dc11 pm11 an11 cd11 ct11), sl11⟩) (c11 : PySem.W.codeIn K cd11 "Chain.pushed" = true) (k11 : PySem.W.keepIn K (.ref f11) = true)
    {f12 : Addr} {o12 kV12 dc12 pm12 cd12 ct12 : Value} {od12 an12 : Option Addr} {sl12 : Array (Option Value)}
    (a12 : PySem.W.nsIn K mainGlobals "cost" = some (some (.ref f12))) (l12 : K.lookup f12 = some ⟨o12, od12, .func (PySem.W.fnOf "cost" "cost" (defArgs (top 11)) (defBody (top 11)) (defScope (top 11)) .none kV12 dc12 pm12 an12 cd12 ct12), sl12⟩) (c12 : PySem.W.codeIn K cd12 "cost" = true) (k12 : PySem.W.keepIn K (.ref f12) = true)
    {f13 : Addr} {o13 kV13 dc13 pm13 cd13 ct13 : Value} {od13 an13 : Option Addr} {sl13 : Array (Option Value)}
    (a13 : PySem.W.nsIn K mainGlobals "lowest" = some (some (.ref f13))) (l13 : K.lookup f13 = some ⟨o13, od13, .func (PySem.W.fnOf "lowest" "lowest" (defArgs (top 12)) (defBody (top 12)) (defScope (top 12)) .none kV13 dc13 pm13 an13 cd13 ct13), sl13⟩) (c13 : PySem.W.codeIn K cd13 "lowest" = true) (k13 : PySem.W.keepIn K (.ref f13) = true)
    {f14 : Addr} {o14 kV14 dc14 pm14 cd14 ct14 : Value} {od14 an14 : Option Addr} {sl14 : Array (Option Value)}
    (a14 : PySem.W.nsIn K mainGlobals "least_sum" = some (some (.ref f14))) (l14 : K.lookup f14 = some ⟨o14, od14, .func (PySem.W.fnOf "least_sum" "least_sum" (defArgs (top 13)) (defBody (top 13)) (defScope (top 13)) .none kV14 dc14 pm14 an14 cd14 ct14), sl14⟩) (c14 : PySem.W.codeIn K cd14 "least_sum" = true) (k14 : PySem.W.keepIn K (.ref f14) = true)
    {f15 : Addr} {o15 kV15 dc15 pm15 cd15 ct15 : Value} {od15 an15 : Option Addr} {sl15 : Array (Option Value)}
    (a15 : PySem.W.nsIn K mainGlobals "_law_box" = some (some (.ref f15))) (l15 : K.lookup f15 = some ⟨o15, od15, .func (PySem.W.fnOf "_law_box" "_law_box" (defArgs (top 15)) (defBody (top 15)) (defScope (top 15)) .none kV15 dc15 pm15 an15 cd15 ct15), sl15⟩) (c15 : PySem.W.codeIn K cd15 "_law_box" = true) (k15 : PySem.W.keepIn K (.ref f15) = true)
    {f16 : Addr} {o16 kV16 dc16 pm16 cd16 ct16 : Value} {od16 an16 : Option Addr} {sl16 : Array (Option Value)}
    (a16 : PySem.W.nsIn K mainGlobals "_law_take" = some (some (.ref f16))) (l16 : K.lookup f16 = some ⟨o16, od16, .func (PySem.W.fnOf "_law_take" "_law_take" (defArgs (top 16)) (defBody (top 16)) (defScope (top 16)) .none kV16 dc16 pm16 an16 cd16 ct16), sl16⟩) (c16 : PySem.W.codeIn K cd16 "_law_take" = true) (k16 : PySem.W.keepIn K (.ref f16) = true)
    {f17 : Addr} {o17 kV17 dc17 pm17 cd17 ct17 : Value} {od17 an17 : Option Addr} {sl17 : Array (Option Value)}
    (a17 : PySem.W.nsIn K mainGlobals "_law_cells" = some (some (.ref f17))) (l17 : K.lookup f17 = some ⟨o17, od17, .func (PySem.W.fnOf "_law_cells" "_law_cells" (defArgs (top 17)) (defBody (top 17)) (defScope (top 17)) .none kV17 dc17 pm17 an17 cd17 ct17), sl17⟩) (c17 : PySem.W.codeIn K cd17 "_law_cells" = true) (k17 : PySem.W.keepIn K (.ref f17) = true)
    {f18 : Addr} {o18 kV18 dc18 pm18 cd18 ct18 : Value} {od18 an18 : Option Addr} {sl18 : Array (Option Value)}
    (a18 : PySem.W.nsIn K mainGlobals "_law_labels" = some (some (.ref f18))) (l18 : K.lookup f18 = some ⟨o18, od18, .func (PySem.W.fnOf "_law_labels" "_law_labels" (defArgs (top 18)) (defBody (top 18)) (defScope (top 18)) .none kV18 dc18 pm18 an18 cd18 ct18), sl18⟩) (c18 : PySem.W.codeIn K cd18 "_law_labels" = true) (k18 : PySem.W.keepIn K (.ref f18) = true)
    {f19 : Addr} {o19 kV19 dc19 pm19 cd19 ct19 : Value} {od19 an19 : Option Addr} {sl19 : Array (Option Value)}
    (a19 : PySem.W.nsIn K mainGlobals "_law_right" = some (some (.ref f19))) (l19 : K.lookup f19 = some ⟨o19, od19, .func (PySem.W.fnOf "_law_right" "_law_right" (defArgs (top 19)) (defBody (top 19)) (defScope (top 19)) .none kV19 dc19 pm19 an19 cd19 ct19), sl19⟩) (c19 : PySem.W.codeIn K cd19 "_law_right" = true) (k19 : PySem.W.keepIn K (.ref f19) = true)
    {f20 : Addr} {o20 kV20 dc20 pm20 cd20 ct20 : Value} {od20 an20 : Option Addr} {sl20 : Array (Option Value)}
    (a20 : PySem.W.nsIn K mainGlobals "law" = some (some (.ref f20))) (l20 : K.lookup f20 = some ⟨o20, od20, .func (PySem.W.fnOf "law" "law" (defArgs (top 20)) (defBody (top 20)) (defScope (top 20)) .none kV20 dc20 pm20 an20 cd20 ct20), sl20⟩) (c20 : PySem.W.codeIn K cd20 "law" = true) (k20 : PySem.W.keepIn K (.ref f20) = true)
    (z0 : PySem.W.nsIn K mainGlobals "abs" = some none)
    (z1 : PySem.W.nsIn K mainGlobals "all" = some none)
    (z2 : PySem.W.nsIn K mainGlobals "enumerate" = some none)
    (z3 : PySem.W.nsIn K mainGlobals "int" = some none)
    (z4 : PySem.W.nsIn K mainGlobals "isinstance" = some none)
    (z5 : PySem.W.nsIn K mainGlobals "len" = some none)
    (z6 : PySem.W.nsIn K mainGlobals "list" = some none)
    (z7 : PySem.W.nsIn K mainGlobals "max" = some none)
    (z8 : PySem.W.nsIn K mainGlobals "min" = some none)
    (z9 : PySem.W.nsIn K mainGlobals "range" = some none)
    (z10 : PySem.W.nsIn K mainGlobals "sorted" = some none)
    (z11 : PySem.W.nsIn K mainGlobals "sum" = some none)
    (z12 : PySem.W.nsIn K mainGlobals "tuple" = some none)
    (z13 : PySem.W.nsIn K mainGlobals "zip" = some none)
    : ∃ fd : FuncData, (∀ (s : Shared) (v : Value), BindsTo s fd ⟨[v], []⟩ [("_law_script", v)]) ∧ ∀ base : Heap, K.In base → base.Ns mainGlobals mg → FnOk l.prog w K mg base CX0 20 fa fd ["_law_script"] (spLaw K) := by
  have e := hfa.symm.trans (PySem.W.mg_of X G a20)
  cases e
  have zb : ∀ x ∈ Z.bl, mg x = none := by
    intro x hx
    simp only [Z, bl, List.mem_cons, List.not_mem_nil, or_false] at hx
    rcases hx with rfl | rfl | rfl | rfl | rfl | rfl | rfl | rfl | rfl | rfl | rfl | rfl | rfl | rfl
    · exact PySem.W.mg_none_of X G z0
    · exact PySem.W.mg_none_of X G z1
    · exact PySem.W.mg_none_of X G z2
    · exact PySem.W.mg_none_of X G z3
    · exact PySem.W.mg_none_of X G z4
    · exact PySem.W.mg_none_of X G z5
    · exact PySem.W.mg_none_of X G z6
    · exact PySem.W.mg_none_of X G z7
    · exact PySem.W.mg_none_of X G z8
    · exact PySem.W.mg_none_of X G z9
    · exact PySem.W.mg_none_of X G z10
    · exact PySem.W.mg_none_of X G z11
    · exact PySem.W.mg_none_of X G z12
    · exact PySem.W.mg_none_of X G z13
  have zc : ∀ (x : Str) (t : T), Z.consts.contains x = true → (cs C_Chain) x = some t → ∃ u v, mg x = some u ∧ RelV v u ∧ RepT K (fun _ => none) t v := by
    intro x t hx ht
    cases hx
  have zk : ClOk K mg (cs C_Chain) Z := by
    intro cn I ci h1 h2
    have hm := List.mem_of_find?_eq_some h1
    have hn := Zs.cl_name h1
    simp only [Z, List.mem_cons, List.not_mem_nil, or_false] at hm
    rcases hm with rfl
    · have hn : "Chain" = cn := hn
      subst hn
      have h2 : some (T.cl (ci_Chain C_Chain)) = some (.cl ci) := h2
      cases h2
      refine ⟨rfl, ⟨pg_Chain, hd_Chain, po_Chain, sa_Chain⟩, fun f hf => ?_, by show (["own_labels", "own_ahead", "own_heights", "own_edges"] : List Str).Nodup; decide +kernel, by show List.length (["own_labels", "own_ahead", "own_heights", "own_edges"] : List Str) < 900; decide +kernel, PySem.W.mg_of X G gC_Chain⟩
      simp only [ci_Chain, List.mem_cons, List.not_mem_nil, or_false] at hf
      rcases hf with rfl | rfl | rfl | rfl
      · exact na0_Chain
      · exact na1_Chain
      · exact na2_Chain
      · exact na3_Chain
  have hd : ∀ f d, D.lookup f = some d → TOk K mg (cs C_Chain) Z f d := by
    intro f d hf
    have hm := lookup_mem hf
    simp only [D, List.mem_cons, List.not_mem_nil, or_false, Prod.mk.injEq] at hm
    rcases hm with ⟨rfl, rfl⟩ | ⟨rfl, rfl⟩ | ⟨rfl, rfl⟩ | ⟨rfl, rfl⟩ | ⟨rfl, rfl⟩ | ⟨rfl, rfl⟩ | ⟨rfl, rfl⟩ | ⟨rfl, rfl⟩ | ⟨rfl, rfl⟩ | ⟨rfl, rfl⟩ | ⟨rfl, rfl⟩ | ⟨rfl, rfl⟩ | ⟨rfl, rfl⟩ | ⟨rfl, rfl⟩ | ⟨rfl, rfl⟩ | ⟨rfl, rfl⟩ | ⟨rfl, rfl⟩ | ⟨rfl, rfl⟩ | ⟨rfl, rfl⟩ | ⟨rfl, rfl⟩ | ⟨rfl, rfl⟩ | ⟨rfl, rfl⟩
    · exact .inl ⟨rfl, I0, _, _, rfl, dok0 X G a0 l0 c0 k0⟩
    · exact .inl ⟨rfl, I1, _, _, rfl, dok1 X G a1 l1 c1 k1⟩
    · exact .inl ⟨rfl, I2, _, _, rfl, dok2 X G a2 l2 c2 k2⟩
    · exact .inl ⟨rfl, I3, _, _, rfl, dok3 X G a3 l3 c3 k3⟩
    · exact .inr ⟨rfl, I4, _, _, rfl, dok4 a4 i4 l4 c4 k4 mk_Chain kc_Chain⟩
    · exact .inr ⟨rfl, I5, _, _, rfl, dok5 a5 i5 l5 c5 k5⟩
    · exact .inr ⟨rfl, I6, _, _, rfl, dok6 a6 i6 l6 c6 k6⟩
    · exact .inr ⟨rfl, I7, _, _, rfl, dok7 a7 i7 l7 c7 k7⟩
    · exact .inr ⟨rfl, I8, _, _, rfl, dok8 a8 i8 l8 c8 k8⟩
    · exact .inr ⟨rfl, I9, _, _, rfl, dok9 a9 i9 l9 c9 k9⟩
    · exact .inr ⟨rfl, I10, _, _, rfl, dok10 a10 i10 l10 c10 k10⟩
    · exact .inr ⟨rfl, I11, _, _, rfl, dok11 a11 i11 l11 c11 k11⟩
    · exact .inl ⟨rfl, I12, _, _, rfl, dok12 X G a12 l12 c12 k12⟩
    · exact .inl ⟨rfl, I13, _, _, rfl, dok13 X G a13 l13 c13 k13⟩
    · exact .inl ⟨rfl, I14, _, _, rfl, dok14 X G a14 l14 c14 k14⟩
    · exact .inl ⟨rfl, I15, _, _, rfl, dok15 X G a15 l15 c15 k15⟩
    · exact .inl ⟨rfl, I16, _, _, rfl, dok16 X G a16 l16 c16 k16⟩
    · exact .inl ⟨rfl, I17, _, _, rfl, dok17 X G a17 l17 c17 k17⟩
    · exact .inl ⟨rfl, I18, _, _, rfl, dok18 X G a18 l18 c18 k18⟩
    · exact .inl ⟨rfl, I19, _, _, rfl, dok19 X G a19 l19 c19 k19⟩
    · exact .inl ⟨rfl, I20, _, _, rfl, dok20 X G a20 l20 c20 k20⟩
    · exact .inr ⟨rfl, I21, _, _, rfl, dok21 a5 i5 l5 c5 k5⟩
  have F := fun_mk (st := top 20) l20 c20 k20
  refine ⟨PySem.W.fnOf "law" "law" (defArgs (top 20)) (defBody (top 20)) (defScope (top 20)) .none kV20 dc20 pm20 an20 cd20 ct20, fun s v => .of_eq rfl, fun base hb hn => ?_⟩
  have g := GOk.tab (P := l.prog) (w := w) (base := base) (Cl := fun _ => none) (cs := (cs C_Chain)) zb zc zk hd 9
  have ok : FnOk l.prog w K mg base CX0 20 _ _ _ _ := def_ok (Z := Z) g F sc20 rfl chk20
  exact law_ok ok rfl fun ns hl => val_sem1 (D := D) rfl (law_run C_Chain ns hl)
theorem walk {l : PySem.W.OpenLaw} {q : Program} {loose : List Str} {XP : (Str → Option Value) → Heap → Prop} {YP : World → Heap → Prop} {d : DefRec} {K : Params → PySem.W.Frag} (hn : l.most = some 63) (hdf : d.params.defaults = [])
    (hY : ∀ (w : World) (h : Heap), YP w h → (K w.params).In h)
    (F : ∀ (w : World) (mg : Str → Option Value) (fa : Addr) (h : Heap), (K w.params).In h → h.Ns mainGlobals mg → mg d.name = some (.ref fa) →
      ∃ fd : FuncData, (∀ (s : Shared) (u : Value), BindsTo s fd ⟨[u], []⟩ [("_law_script", u)]) ∧ ∀ base : Heap, (K w.params).In base → base.Ns mainGlobals mg → FnOk l.prog w (K w.params) mg base CX0 20 fa fd ["_law_script"] (spLaw (K w.params))) :
    PySem.W.WalkO q loose XP YP l.row.toRowW d [] (fun f vs => PySem.call f vs) :=
  L2.walk_of (n := 63) (k := 20) (x := "_law_script") (CX := fun _ => CX0) (sp := fun w => spLaw (K w.params)) hn (by decide) hdf ⟨rfl, by decide, by decide⟩ hY F (fun _ _ a ns hl _ hS => ⟨a, ns, rfl, hS, hl, fun _ => rfl⟩) fun _ _ _ _ _ z => z
end K67
open PySem PySem.W PyProof.Rows in
set_option maxRecDepth 100000 in
set_option maxHeartbeats 0 in
theorem PySem.Challenge.cw_makeroom_k67_whole_greater_and_smaller_s_holds : PySem.Challenge.rw_makeroom_k67_whole_greater_and_smaller_s.Holds := by
  w_on; o_law; k_head; (case hw => w_witness2)
  k_fill
  refine K67.walk (l := PySem.Challenge.rw_makeroom_k67_whole_greater_and_smaller_s) rfl rfl (fun w h Y => PySem.W.kIn_of Y) ?F
  case F =>
    intro w mg fa h KX G hmg
    refine' K67.all_mk KX G hmg ?gC_Chain ?pg_Chain ?hd_Chain ?po_Chain ?sa_Chain ?mk_Chain ?kc_Chain ?na0_Chain ?na1_Chain ?na2_Chain ?na3_Chain ?a0 ?l0 ?c0 ?k0 ?a1 ?l1 ?c1 ?k1 ?a2 ?l2 ?c2 ?k2 ?a3 ?l3 ?c3 ?k3 ?a4 ?i4 ?l4 ?c4 ?k4 ?a5 ?i5 ?l5 ?c5 ?k5 ?a6 ?i6 ?l6 ?c6 ?k6 ?a7 ?i7 ?l7 ?c7 ?k7 ?a8 ?i8 ?l8 ?c8 ?k8 ?a9 ?i9 ?l9 ?c9 ?k9 ?a10 ?i10 ?l10 ?c10 ?k10 ?a11 ?i11 ?l11 ?c11 ?k11 ?a12 ?l12 ?c12 ?k12 ?a13 ?l13 ?c13 ?k13 ?a14 ?l14 ?c14 ?k14 ?a15 ?l15 ?c15 ?k15 ?a16 ?l16 ?c16 ?k16 ?a17 ?l17 ?c17 ?k17 ?a18 ?l18 ?c18 ?k18 ?a19 ?l19 ?c19 ?k19 ?a20 ?l20 ?c20 ?k20 ?z0 ?z1 ?z2 ?z3 ?z4 ?z5 ?z6 ?z7 ?z8 ?z9 ?z10 ?z11 ?z12 ?z13
    (case gC_Chain => k_is)
    (case pg_Chain => k_is)
    (case hd_Chain => k_is)
    (case po_Chain => k_is)
    (case sa_Chain => k_is)
    (case mk_Chain => k_is)
    (case kc_Chain => k_is)
    (case na0_Chain => k_is)
    (case na1_Chain => k_is)
    (case na2_Chain => k_is)
    (case na3_Chain => k_is)
    (case a0 => k_is)
    (case l0 => k_is)
    (case c0 => k_is)
    (case k0 => k_is)
    (case a1 => k_is)
    (case l1 => k_is)
    (case c1 => k_is)
    (case k1 => k_is)
    (case a2 => k_is)
    (case l2 => k_is)
    (case c2 => k_is)
    (case k2 => k_is)
    (case a3 => k_is)
    (case l3 => k_is)
    (case c3 => k_is)
    (case k3 => k_is)
    (case a4 => k_is)
    (case i4 => k_is)
    (case l4 => k_is)
    (case c4 => k_is)
    (case k4 => k_is)
    (case a5 => k_is)
    (case i5 => k_is)
    (case l5 => k_is)
    (case c5 => k_is)
    (case k5 => k_is)
    (case a6 => k_is)
    (case i6 => k_is)
    (case l6 => k_is)
    (case c6 => k_is)
    (case k6 => k_is)
    (case a7 => k_is)
    (case i7 => k_is)
    (case l7 => k_is)
    (case c7 => k_is)
    (case k7 => k_is)
    (case a8 => k_is)
    (case i8 => k_is)
    (case l8 => k_is)
    (case c8 => k_is)
    (case k8 => k_is)
    (case a9 => k_is)
    (case i9 => k_is)
    (case l9 => k_is)
    (case c9 => k_is)
    (case k9 => k_is)
    (case a10 => k_is)
    (case i10 => k_is)
    (case l10 => k_is)
    (case c10 => k_is)
    (case k10 => k_is)
    (case a11 => k_is)
    (case i11 => k_is)
    (case l11 => k_is)
    (case c11 => k_is)
    (case k11 => k_is)
    (case a12 => k_is)
    (case l12 => k_is)
    (case c12 => k_is)
    (case k12 => k_is)
    (case a13 => k_is)
    (case l13 => k_is)
    (case c13 => k_is)
    (case k13 => k_is)
    (case a14 => k_is)
    (case l14 => k_is)
    (case c14 => k_is)
    (case k14 => k_is)
    (case a15 => k_is)
    (case l15 => k_is)
    (case c15 => k_is)
    (case k15 => k_is)
    (case a16 => k_is)
    (case l16 => k_is)
    (case c16 => k_is)
    (case k16 => k_is)
    (case a17 => k_is)
    (case l17 => k_is)
    (case c17 => k_is)
    (case k17 => k_is)
    (case a18 => k_is)
    (case l18 => k_is)
    (case c18 => k_is)
    (case k18 => k_is)
    (case a19 => k_is)
    (case l19 => k_is)
    (case c19 => k_is)
    (case k19 => k_is)
    (case a20 => k_is)
    (case l20 => k_is)
    (case c20 => k_is)
    (case k20 => k_is)
    (case z0 => k_is)
    (case z1 => k_is)
    (case z2 => k_is)
    (case z3 => k_is)
    (case z4 => k_is)
    (case z5 => k_is)
    (case z6 => k_is)
    (case z7 => k_is)
    (case z8 => k_is)
    (case z9 => k_is)
    (case z10 => k_is)
    (case z11 => k_is)
    (case z12 => k_is)
    (case z13 => k_is)
